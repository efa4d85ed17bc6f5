import Derived.Test.YtgbapgjdkoojdaaVsQ
import Derived.Test.YtgbapgjdkoojdaaVsSj
import Derived.Test.YtgbapgjdkoojdaaVsE4
import Derived.Test.YtgbapgjdkoojdaaVsE8
import Derived.Test.YtgbapgjdkoojdaaVsE20
import Derived.Test.YtgbapgjdkoojdaaVsW2
set_option linter.unusedVariables false
set_option linter.unusedSimpArgs false
namespace Go.Proofs.Ytgbapgjdkoojdaa
open Go.Vs
set_option linter.unusedSimpArgs false
set_option linter.unusedVariables false
set_option maxHeartbeats 1000000
theorem runs46 (secs : List (List UInt8)) (cache : List Wr) (fuse : Int) (down : Bool) (n : Int) (hl : secs.length < 2 ^ 62) (hm : cache.length < 2 ^ 62) (hs : ∀ b ∈ secs, b.length < 2 ^ 45) (hc : ∀ w ∈ cache, w.2.length < 2 ^ 45) : Runs Try.prog 46 [.val true [(.rd, .sl 1 (sD secs)), (.rd, .sl 2 (wD cache)), (.rd, .lf (.int .i64 fuse)), (.rd, .lf (.bool down))], .val false [(.rd, .lf (.int .i64 n))]] ⟨[(false, [.sl 1 (bD (rdSec secs cache fuse n))])], [], []⟩ := by
 obtain ⟨c, hb, hs⟩ := body_of tr46
 refine runs_of_sw Try.func46 hb hs rfl (show 2 ≤ 49 by decide) ?_
 clear hb hs c
 refine q17 ?_
 unfold s46
 have e0 : IntKind.i64.wrap ((secs.length : Int) - 1) = (secs.length : Int) - 1 := wrap64 (by omega) (by omega)
 refine sw_seq ?_
 refine sw_reg ?_
 unfold s46_0
 refine os_wro (by intros; nofun) ?_
 refine ⟨_, rfl, ?_⟩
 refine q2 ?_
 refine os_ev (evq_mvk) ?_
 simp only [runOs, thenQ, blockQ, Vs.put, reduceIte, Nat.reduceEqDiff]
 refine sw_seq ?_
 refine sw_seq ?_
 refine sw_reg ?_
 unfold s46_1
 refine q10 ?_
 refine q0 ?_
 refine os_callo ?_
 refine q4 ?_
 refine ⟨_, _, runs41 secs cache fuse down hl hm, _, rfl, _, rfl, by simp [handIo, handBx], fa_cons (⟨rfl, .inl rfl, by simp [handIo, handBx], _, rfl, by simp, by first | rfl | (simp; done) | exact (List.take_of_length_le (by simp)).symm⟩) (fa_cons (⟨rfl, .inl rfl, by simp [handIo, handBx], _, rfl, by simp, by first | rfl | (simp; done) | exact (List.take_of_length_le (by simp)).symm⟩) (fa_cons (rfl) (fa_cons (rfl) (fa_nil)))), _, rfl, _, rfl, ?_⟩
 refine q6 ?_
 refine q2 ?_
 refine os_ev (evq_un rfl rfl) ?_
 refine os_ev (evq_mvt rfl) ?_
 refine os_gs rfl (fun g9 => ?_) (fun g9 => ?_)
 ·try simp only [g9]
  replace g9 := q1 g9
  refine os_gno rfl (by decide) ?_
  refine os_gno rfl (by decide) ?_
  refine os_gno rfl (by decide) ?_
  refine os_gno rfl (by decide) ?_
  simp only [Vs.put, reduceIte, Nat.reduceEqDiff]
  refine os_gno rfl (by decide) ?_
  refine os_gno rfl (by decide) ?_
  refine os_gno rfl (by decide) ?_
  refine os_ev (evq_pickt rfl rfl) ?_
  simp only [runOs, thenQ, blockQ, Vs.put, reduceIte, Nat.reduceEqDiff]
  refine sw_cond rfl (fun h1 => ?_) (fun h1 => ?_)
  ·replace h1 := q1 h1
   refine sw_seq ?_
   refine sw_reg ?_
   unfold s46_2
   refine os_ev (evq_mvk) ?_
   simp only [runOs, thenQ, blockQ, Vs.put, reduceIte, Nat.reduceEqDiff]
   refine sw_ret ?_
   refine q3 ?_
   rw [rdSec_no fun hh => by simp_all]
   first | exact leaves_vals rfl rfl rfl (take_nl rfl) | exact leaves_a rfl rfl rfl (take_nl rfl)
  ·exact absurd h1 (by simp at h1)
 ·try simp only [g9]
  replace g9 := q1 g9
  refine os_gdo rfl ?_
  refine os_ev (evq_mvt rfl) ?_
  refine os_gdo rfl ?_
  refine q7 ?_
  refine q0 ?_
  simp only [Vs.put, reduceIte, Nat.reduceEqDiff]
  refine os_gdo rfl ?_
  refine q8 ?_
  refine q0 ?_
  refine os_gdo rfl ?_
  refine q9 ?_
  refine os_gdo rfl ?_
  refine os_ev (evq_bin rfl rfl rfl) ?_
  refine os_gdo rfl ?_
  refine os_callo ?_
  refine q4 ?_
  simp only [e0]
  refine ⟨_, _, runs77 n 0 ((secs.length : Int) - 1), _, rfl, _, rfl, by simp [handIo, handBx], fa_cons (rfl) (fa_cons (rfl) (fa_cons (rfl) (fa_nil))), _, rfl, _, rfl, ?_⟩
  refine q6 ?_
  refine q2 ?_
  refine os_gdo rfl ?_
  refine os_ev (evq_un rfl rfl) ?_
  refine os_ev (evq_pickf rfl rfl) ?_
  simp only [Vs.put, reduceIte, Nat.reduceEqDiff]
  simp only [runOs, thenQ, blockQ, Vs.put, reduceIte, Nat.reduceEqDiff]
  refine sw_cond rfl (fun h1 => ?_) (fun h1 => ?_)
  ·replace h1 := q1 h1
   refine sw_seq ?_
   refine sw_reg ?_
   unfold s46_2
   refine os_ev (evq_mvk) ?_
   simp only [runOs, thenQ, blockQ, Vs.put, reduceIte, Nat.reduceEqDiff]
   refine sw_ret ?_
   refine q3 ?_
   rw [rdSec_no fun hh => by omega]
   first | exact leaves_vals rfl rfl rfl (take_nl rfl) | exact leaves_a rfl rfl rfl (take_nl rfl)
  ·replace h1 := q1 h1
   obtain ⟨k, rfl⟩ : ∃ k0 : Nat, n = k0 := ⟨n.toNat, by omega⟩
   have hk : k < secs.length := by omega
   rw [rdSec_yes g9 hk]
   have e2 : IntKind.i64.wrap ((cache.length : Int) - 1) = (cache.length : Int) - 1 := wrap64 (by omega) (by omega)
   refine sw_skip ?_
   simp only [thenQ, blockQ]
   refine sw_seq ?_
   refine sw_seq ?_
   refine sw_reg ?_
   unfold s46_3
   refine q7 ?_
   refine q0 ?_
   refine q8 ?_
   refine q0 ?_
   refine q9 ?_
   refine os_ev (evq_bin rfl rfl rfl) ?_
   simp only [e2]
   simp only [Vs.put, reduceIte, Nat.reduceEqDiff]
   refine os_ev (evq_mvt rfl) ?_
   simp only [runOs, thenQ, blockQ, Vs.put, reduceIte, Nat.reduceEqDiff]
   refine sw_block ?_
   refine sw_loop_upd [1, 2, 5] (α := Nat) (fun i => [(5, .a (.c (.lf (.int .i64 ((i : Int) - 1)))))]) (fun i => [(2, .bx [.rf 0 [] 1 0 secs.length, .rf 1 [] 2 0 cache.length, .lf (.int .i64 fuse), .lf (.bool down)]), (0, .im 1 (sD secs)), (1, .im 2 (wD cache))]) (3) (fun i => i ≤ cache.length ∧ rdL cache k secs[k] = rdL (cache.take i) k secs[k]) (fun i => i) (cache.length) [(2, 2), (0, 0), (1, 1)] ?_ (by decide) ?_ ?_ ?_
   ·exact ⟨Nat.le_refl _, by rw [List.take_length]⟩
   ·simp only [sel, Vs.get, upd, Vs.put, reduceIte, Nat.reduceEqDiff]
    repeat' (first | exact er_nil | refine er_un ?_ | refine er_cons rfl ?_ ?_)
    all_goals (try simp only [V.map, A.map, renC, Vs.get, reduceIte, Nat.reduceEqDiff, List.map_cons, List.map_nil])
    all_goals (try rfl)
   ·repeat' (first | exact rr_nil | refine rr_cons 2 rfl rfl ?_ ?_ | refine rr_cons 0 rfl rfl ?_ ?_ | refine rr_cons 1 rfl rfl ?_ ?_)
    all_goals (try simp only [renRoot, renC, Vs.get, reduceIte, Nat.reduceEqDiff, List.map_cons, List.map_nil])
    all_goals (try rfl)
   ·rintro i hinv
    simp only [sel, Vs.get, upd, Vs.put, reduceIte, Nat.reduceEqDiff]
    obtain ⟨hi, hat⟩ := hinv
    refine sw_seq ?_
    refine sw_seq ?_
    refine sw_reg ?_
    unfold s46_4
    refine os_ev (evq_mvt rfl) ?_
    refine os_ev (evq_bin rfl rfl rfl) ?_
    simp only [runOs, thenQ, blockQ, Vs.put, reduceIte, Nat.reduceEqDiff]
    refine sw_cond rfl (fun h4 => ?_) (fun h4 => ?_)
    ·replace h4 := q1 h4
     have hib : i - 1 < cache.length := by omega
     have e0 : (i : Int) - 1 = ((i - 1 : Nat) : Int) := by omega
     have e1 : IntKind.i64.wrap ((i : Int) - 1 - 1) = ((i - 1 : Nat) : Int) - 1 := by rw [wrap64 (by omega) (by omega)]; omega
     refine sw_skip ?_
     simp only [thenQ, blockQ]
     refine sw_seq ?_
     refine sw_block ?_
     refine sw_seq ?_
     refine sw_reg ?_
     unfold s46_6
     refine q7 ?_
     refine q0 ?_
     refine q8 ?_
     refine q0 ?_
     simp only [Vs.put, reduceIte, Nat.reduceEqDiff]
     refine os_ev (evq_mvt rfl) ?_
     refine os_ev (evq_iad (j := i - 1) rfl rfl e0 (by omega)) ?_
     refine q7 ?_
     refine q0 ?_
     first | refine os_ev (evq_ldb rfl rfl rfl) ?_ | refine os_ev (evq_ldl rfl rfl (wD_get hib) rfl) ?_ | refine os_ev (evq_lds rfl rfl (wD_get hib) rfl) ?_ | refine os_ev (evq_ldl rfl rfl (rfl) rfl) ?_ | refine os_ev (evq_lds rfl rfl (rfl) rfl) ?_
     refine q0 ?_
     refine os_ev (evq_mvt rfl) ?_
     simp only [Vs.put, reduceIte, Nat.reduceEqDiff]
     refine os_ev (evq_bin rfl rfl rfl) ?_
     simp only [runOs, thenQ, blockQ, Vs.put, reduceIte, Nat.reduceEqDiff]
     refine sw_cond rfl (fun h5 => ?_) (fun h5 => ?_)
     ·replace h5 := q1 h5
      refine sw_seq ?_
      refine sw_reg ?_
      unfold s46_7
      refine q7 ?_
      refine q0 ?_
      refine q8 ?_
      refine q0 ?_
      refine os_ev (evq_mvt rfl) ?_
      refine os_ev (evq_iad (j := i - 1) rfl rfl e0 (by omega)) ?_
      simp only [Vs.put, reduceIte, Nat.reduceEqDiff]
      refine q7 ?_
      refine q0 ?_
      first | refine os_ev (evq_ldb rfl rfl rfl) ?_ | refine os_ev (evq_ldl rfl rfl (wD_get hib) rfl) ?_ | refine os_ev (evq_lds rfl rfl (wD_get hib) rfl) ?_ | refine os_ev (evq_ldl rfl rfl (rfl) rfl) ?_ | refine os_ev (evq_lds rfl rfl (rfl) rfl) ?_
      refine q0 ?_
      refine os_wro (by intros; nofun) ?_
      refine .inr ⟨_, rfl, ?_⟩
      refine q23 ?_
      refine q2 ?_
      refine os_see ?_
      refine q4 ?_
      refine ⟨[(false, [.sl 1 (sD [cache[i - 1].2])])], _, runs101 [cache[i - 1].2] (by simp) (by simp only [List.flatten_cons, List.flatten_nil, List.append_nil]; have := hc _ (List.getElem_mem hib); omega), ⟨see_sb1 rfl (see_bytes (by simp only [nodeIn, Vs.get, Vs.put, reduceIte, Nat.reduceEqDiff, nodeAt, wD_get hib, Option.bind_some, List.getElem?_cons_zero, List.getElem?_cons_succ]) (by simp)), trivial⟩, ?_⟩
      refine q24 ?_
      refine q2 ?_
      refine os_ev (evq_mvt rfl) ?_
      simp only [runOs, thenQ, blockQ, Vs.put, reduceIte, Nat.reduceEqDiff]
      refine sw_ret ?_
      refine q3 ?_
      have hx := rdL_hit (b := secs[k]) hib h5
      rw [show i - 1 + 1 = i by omega] at hx
      rw [hat, hx]
      first | exact leaves_vals rfl rfl rfl (take_one rfl (by simp)) | exact leaves_a rfl rfl rfl (take_one rfl (by simp))
     ·replace h5 := q1 h5
      refine sw_skip ?_
      simp only [thenQ, blockQ]
      refine sw_reg ?_
      unfold s46_5
      refine os_ev (evq_mvt rfl) ?_
      refine os_ev (evq_bin rfl rfl rfl) ?_
      simp only [Vs.put, reduceIte, Nat.reduceEqDiff]
      refine os_ev (evq_mvt rfl) ?_
      simp only [runOs, thenQ, blockQ, Vs.put, reduceIte, Nat.reduceEqDiff]
      try simp only [thenQ, blockQ]
      refine ⟨i - 1, ?_, ?_, rfl, [(2, 2), (0, 0), (1, 1)], by decide, ?_, ?_⟩
      ·refine ⟨by omega, hat.trans ?_⟩
       have hx := rdL_miss (b := secs[k]) hib h5
       rw [show i - 1 + 1 = i by omega] at hx
       exact hx
      ·first | omega | (dsimp only; omega)
      ·simp only [sel, Vs.get, upd, Vs.put, reduceIte, Nat.reduceEqDiff]
       repeat' (first | exact er_nil | refine er_un ?_ | refine er_cons rfl ?_ ?_)
       all_goals (try simp only [V.map, A.map, renC, Vs.get, reduceIte, Nat.reduceEqDiff, List.map_cons, List.map_nil, e1])
      ·repeat' (first | exact rr_nil | refine rr_cons 2 rfl rfl ?_ ?_ | refine rr_cons 0 rfl rfl ?_ ?_ | refine rr_cons 1 rfl rfl ?_ ?_)
       all_goals (try simp only [renRoot, renC, Vs.get, reduceIte, Nat.reduceEqDiff, List.map_cons, List.map_nil, e1])
    ·replace h4 := q1 h4
     have hi0 : i = 0 := by omega
     subst hi0
     refine sw_exit ?_
     refine q12 ?_
     refine sw_seq ?_
     refine sw_reg ?_
     unfold s46_8
     refine q7 ?_
     refine q0 ?_
     refine q8 ?_
     refine q0 ?_
     refine os_ev (evq_mvt rfl) ?_
     refine q13 ?_
     simp only [Vs.put, reduceIte, Nat.reduceEqDiff]
     first | refine os_ev (evq_ldb rfl rfl rfl) ?_ | refine os_ev (evq_ldl rfl rfl (sD_get hk) rfl) ?_ | refine os_ev (evq_lds rfl rfl (sD_get hk) rfl) ?_ | refine os_ev (evq_ldl rfl rfl (rfl) rfl) ?_ | refine os_ev (evq_lds rfl rfl (rfl) rfl) ?_
     refine q0 ?_
     refine os_wro (by intros; nofun) ?_
     refine .inr ⟨_, rfl, ?_⟩
     refine q23 ?_
     refine q2 ?_
     refine os_see ?_
     refine q4 ?_
     refine ⟨[(false, [.sl 1 (sD [secs[k]])])], _, runs101 [secs[k]] (by simp) (by simp only [List.flatten_cons, List.flatten_nil, List.append_nil]; have := hs _ (List.getElem_mem hk); omega), ⟨see_sb1 rfl (see_bytes (by simp only [nodeIn, Vs.get, Vs.put, reduceIte, Nat.reduceEqDiff, nodeAt, sD_get hk, Option.bind_some, List.getElem?_cons_zero, List.getElem?_cons_succ]) (by simp)), trivial⟩, ?_⟩
     refine q24 ?_
     refine q2 ?_
     refine os_ev (evq_mvt rfl) ?_
     simp only [runOs, thenQ, blockQ, Vs.put, reduceIte, Nat.reduceEqDiff]
     refine sw_ret ?_
     refine q3 ?_
     rw [hat]
     simp only [List.take_zero, rdL, List.foldl_nil]
     first | exact leaves_vals rfl rfl rfl (take_one rfl (by simp)) | exact leaves_a rfl rfl rfl (take_one rfl (by simp))
theorem runs55 (secs : List (List UInt8)) (cache : List Wr) (fuse : Int) (down : Bool) (n : Int) (hl : secs.length < 2 ^ 62) (hm : cache.length < 2 ^ 62) (hs : ∀ b ∈ secs, b.length < 2 ^ 45) (hc : ∀ w ∈ cache, w.2.length < 2 ^ 45) : Runs Try.prog 55 [.val true [(.rd, .sl 1 (sD secs)), (.rd, .sl 2 (wD cache)), (.rd, .lf (.int .i64 fuse)), (.rd, .lf (.bool down))], .val false [(.rd, .lf (.int .i64 n))]] ⟨[(false, [.sl 1 (bD (rdSec secs cache fuse n))])], [], []⟩ := by
 obtain ⟨c, hb, hs⟩ := body_of tr55
 refine runs_of_sw Try.func55 hb hs rfl (show 2 ≤ 49 by decide) ?_
 clear hb hs c
 refine q17 ?_
 unfold s55
 have e0 : IntKind.i64.wrap ((secs.length : Int) - 1) = (secs.length : Int) - 1 := wrap64 (by omega) (by omega)
 refine sw_seq ?_
 refine sw_reg ?_
 unfold s55_0
 refine os_wro (by intros; nofun) ?_
 refine ⟨_, rfl, ?_⟩
 refine q2 ?_
 refine os_ev (evq_mvk) ?_
 simp only [runOs, thenQ, blockQ, Vs.put, reduceIte, Nat.reduceEqDiff]
 refine sw_seq ?_
 refine sw_seq ?_
 refine sw_reg ?_
 unfold s55_1
 refine q10 ?_
 refine q0 ?_
 refine os_callo ?_
 refine q4 ?_
 refine ⟨_, _, runs39 secs cache fuse down hl hm, _, rfl, _, rfl, by simp [handIo, handBx], fa_cons (⟨rfl, .inl rfl, by simp [handIo, handBx], _, rfl, by simp, by first | rfl | (simp; done) | exact (List.take_of_length_le (by simp)).symm⟩) (fa_cons (⟨rfl, .inl rfl, by simp [handIo, handBx], _, rfl, by simp, by first | rfl | (simp; done) | exact (List.take_of_length_le (by simp)).symm⟩) (fa_cons (rfl) (fa_cons (rfl) (fa_nil)))), _, rfl, _, rfl, ?_⟩
 refine q6 ?_
 refine q2 ?_
 refine os_ev (evq_un rfl rfl) ?_
 refine os_ev (evq_mvt rfl) ?_
 refine os_gs rfl (fun g10 => ?_) (fun g10 => ?_)
 ·try simp only [g10]
  replace g10 := q1 g10
  refine os_gno rfl (by decide) ?_
  refine os_gno rfl (by decide) ?_
  refine os_gno rfl (by decide) ?_
  refine os_gno rfl (by decide) ?_
  simp only [Vs.put, reduceIte, Nat.reduceEqDiff]
  refine os_gno rfl (by decide) ?_
  refine os_gno rfl (by decide) ?_
  refine os_gno rfl (by decide) ?_
  refine os_ev (evq_pickt rfl rfl) ?_
  simp only [runOs, thenQ, blockQ, Vs.put, reduceIte, Nat.reduceEqDiff]
  refine sw_cond rfl (fun h1 => ?_) (fun h1 => ?_)
  ·replace h1 := q1 h1
   refine sw_seq ?_
   refine sw_reg ?_
   unfold s55_2
   refine os_wro (by intros; nofun) ?_
   refine .inl ⟨_, rfl, _, rfl, ?_⟩
   refine q20 ?_
   refine q2 ?_
   refine os_ev (evq_mvt rfl) ?_
   simp only [runOs, thenQ, blockQ, Vs.put, reduceIte, Nat.reduceEqDiff]
   refine sw_ret ?_
   refine q3 ?_
   rw [rdSec_no fun hh => by simp_all]
   first | exact leaves_vals rfl rfl rfl (take_one rfl (by simp)) | exact leaves_a rfl rfl rfl (take_one rfl (by simp))
  ·exact absurd h1 (by simp at h1)
 ·try simp only [g10]
  replace g10 := q1 g10
  refine os_gdo rfl ?_
  refine os_ev (evq_mvt rfl) ?_
  refine os_gdo rfl ?_
  refine q7 ?_
  refine q0 ?_
  simp only [Vs.put, reduceIte, Nat.reduceEqDiff]
  refine os_gdo rfl ?_
  refine q8 ?_
  refine q0 ?_
  refine os_gdo rfl ?_
  refine q9 ?_
  refine os_gdo rfl ?_
  refine os_ev (evq_bin rfl rfl rfl) ?_
  refine os_gdo rfl ?_
  refine os_callo ?_
  refine q4 ?_
  simp only [e0]
  refine ⟨_, _, runs74 n 0 ((secs.length : Int) - 1), _, rfl, _, rfl, by simp [handIo, handBx], fa_cons (rfl) (fa_cons (rfl) (fa_cons (rfl) (fa_nil))), _, rfl, _, rfl, ?_⟩
  refine q6 ?_
  refine q2 ?_
  refine os_gdo rfl ?_
  refine os_ev (evq_un rfl rfl) ?_
  refine os_ev (evq_pickf rfl rfl) ?_
  simp only [Vs.put, reduceIte, Nat.reduceEqDiff]
  simp only [runOs, thenQ, blockQ, Vs.put, reduceIte, Nat.reduceEqDiff]
  refine sw_cond rfl (fun h1 => ?_) (fun h1 => ?_)
  ·replace h1 := q1 h1
   refine sw_seq ?_
   refine sw_reg ?_
   unfold s55_2
   refine os_wro (by intros; nofun) ?_
   refine .inl ⟨_, rfl, _, rfl, ?_⟩
   refine q20 ?_
   refine q2 ?_
   refine os_ev (evq_mvt rfl) ?_
   simp only [runOs, thenQ, blockQ, Vs.put, reduceIte, Nat.reduceEqDiff]
   refine sw_ret ?_
   refine q3 ?_
   rw [rdSec_no fun hh => by omega]
   first | exact leaves_vals rfl rfl rfl (take_one rfl (by simp)) | exact leaves_a rfl rfl rfl (take_one rfl (by simp))
  ·replace h1 := q1 h1
   obtain ⟨k, rfl⟩ : ∃ k0 : Nat, n = k0 := ⟨n.toNat, by omega⟩
   have hk : k < secs.length := by omega
   rw [rdSec_yes g10 hk]
   refine sw_skip ?_
   simp only [thenQ, blockQ]
   refine sw_seq ?_
   refine sw_reg ?_
   unfold s55_3
   refine q7 ?_
   refine q0 ?_
   refine q8 ?_
   refine q0 ?_
   refine os_ev (evq_mvt rfl) ?_
   refine q13 ?_
   simp only [Vs.put, reduceIte, Nat.reduceEqDiff]
   first | refine os_ev (evq_ldb rfl rfl rfl) ?_ | refine os_ev (evq_ldl rfl rfl (sD_get hk) rfl) ?_ | refine os_ev (evq_lds rfl rfl (sD_get hk) rfl) ?_ | refine os_ev (evq_ldl rfl rfl (rfl) rfl) ?_ | refine os_ev (evq_lds rfl rfl (rfl) rfl) ?_
   refine q0 ?_
   refine os_ev (evq_mvt rfl) ?_
   simp only [runOs, thenQ, blockQ, Vs.put, reduceIte, Nat.reduceEqDiff]
   refine sw_seq ?_
   refine sw_seq ?_
   refine sw_reg ?_
   unfold s55_4
   refine os_ev (evq_mvk) ?_
   simp only [runOs, thenQ, blockQ, Vs.put, reduceIte, Nat.reduceEqDiff]
   refine sw_block ?_
   refine sw_loop_upd [1, 2, 5, 6] (α := Nat × C × List UInt8) (fun (i, c, b) => [(5, .a (.c c)), (6, .a (.c (.lf (.int .i64 (i : Nat)))))]) (fun (i, c, b) => [(2, .bx [.rf 0 [] 1 0 secs.length, .rf 1 [] 2 0 cache.length, .lf (.int .i64 fuse), .lf (.bool down)]), (0, .im 1 (sD secs)), (1, .im 2 (wD cache))]) (3) (fun (i, c, b) => i ≤ cache.length ∧ rdL (cache.take i) k secs[k] = b ∧ ((c = .rf 0 [(k, 0)] 1 0 b.length ∧ b = secs[k]) ∨ ∃ j, ∃ hj : j < cache.length, c = .rf 1 [(j, 1)] 1 0 b.length ∧ b = cache[j].2)) (fun (i, c, b) => cache.length - i) (0, .rf 0 [(k, 0)] 1 0 secs[k].length, secs[k]) [(2, 2), (0, 0), (1, 1)] ?_ (by decide) ?_ ?_ ?_
   ·exact ⟨Nat.zero_le _, rfl, .inl ⟨rfl, rfl⟩⟩
   ·simp only [sel, Vs.get, upd, Vs.put, reduceIte, Nat.reduceEqDiff]
    repeat' (first | exact er_nil | refine er_un ?_ | refine er_cons rfl ?_ ?_)
    all_goals (try simp only [V.map, A.map, renC, Vs.get, reduceIte, Nat.reduceEqDiff, List.map_cons, List.map_nil])
    all_goals (try rfl)
   ·repeat' (first | exact rr_nil | refine rr_cons 2 rfl rfl ?_ ?_ | refine rr_cons 0 rfl rfl ?_ ?_ | refine rr_cons 1 rfl rfl ?_ ?_)
    all_goals (try simp only [renRoot, renC, Vs.get, reduceIte, Nat.reduceEqDiff, List.map_cons, List.map_nil])
    all_goals (try rfl)
   ·rintro ⟨i, c, b⟩ hinv
    simp only [sel, Vs.get, upd, Vs.put, reduceIte, Nat.reduceEqDiff]
    obtain ⟨hi, hat, hcc⟩ := hinv
    have hren : renC [(2, 2), (0, 0), (1, 1)] c = c := by
     rcases hcc with ⟨rfl, _⟩ | ⟨j, hj, rfl, _⟩ <;> rfl
    refine sw_seq ?_
    refine sw_seq ?_
    refine sw_reg ?_
    unfold s55_5
    refine os_ev (evq_mvt rfl) ?_
    refine q7 ?_
    refine q0 ?_
    simp only [Vs.put, reduceIte, Nat.reduceEqDiff]
    refine q8 ?_
    refine q0 ?_
    refine q9 ?_
    refine os_ev (evq_bin rfl rfl rfl) ?_
    simp only [runOs, thenQ, blockQ, Vs.put, reduceIte, Nat.reduceEqDiff]
    refine sw_cond rfl (fun h4 => ?_) (fun h4 => ?_)
    ·replace h4 := q1 h4
     have hib : i < cache.length := by omega
     have e1 : IntKind.i64.wrap ((i : Int) + 1) = ((i + 1 : Nat) : Int) := by rw [wrap64 (by omega) (by omega)]; rfl
     refine sw_skip ?_
     simp only [thenQ, blockQ]
     refine sw_seq ?_
     refine sw_block ?_
     refine sw_seq ?_
     refine sw_reg ?_
     unfold s55_7
     refine q7 ?_
     refine q0 ?_
     refine q8 ?_
     refine q0 ?_
     simp only [Vs.put, reduceIte, Nat.reduceEqDiff]
     refine os_ev (evq_mvt rfl) ?_
     refine q13 ?_
     refine q7 ?_
     refine q0 ?_
     first | refine os_ev (evq_ldb rfl rfl rfl) ?_ | refine os_ev (evq_ldl rfl rfl (wD_get hib) rfl) ?_ | refine os_ev (evq_lds rfl rfl (wD_get hib) rfl) ?_ | refine os_ev (evq_ldl rfl rfl (rfl) rfl) ?_ | refine os_ev (evq_lds rfl rfl (rfl) rfl) ?_
     refine q0 ?_
     refine os_ev (evq_mvt rfl) ?_
     simp only [Vs.put, reduceIte, Nat.reduceEqDiff]
     refine os_ev (evq_bin rfl rfl rfl) ?_
     simp only [runOs, thenQ, blockQ, Vs.put, reduceIte, Nat.reduceEqDiff]
     refine sw_cond rfl (fun h5 => ?_) (fun h5 => ?_)
     ·replace h5 := q1 h5
      refine sw_reg ?_
      unfold s55_8
      refine q7 ?_
      refine q0 ?_
      refine q8 ?_
      refine q0 ?_
      refine os_ev (evq_mvt rfl) ?_
      refine q13 ?_
      simp only [Vs.put, reduceIte, Nat.reduceEqDiff]
      refine q7 ?_
      refine q0 ?_
      first | refine os_ev (evq_ldb rfl rfl rfl) ?_ | refine os_ev (evq_ldl rfl rfl (wD_get hib) rfl) ?_ | refine os_ev (evq_lds rfl rfl (wD_get hib) rfl) ?_ | refine os_ev (evq_ldl rfl rfl (rfl) rfl) ?_ | refine os_ev (evq_lds rfl rfl (rfl) rfl) ?_
      refine q0 ?_
      refine os_ev (evq_mvt rfl) ?_
      simp only [runOs, thenQ, blockQ, Vs.put, reduceIte, Nat.reduceEqDiff]
      refine sw_reg ?_
      unfold s55_6
      refine os_ev (evq_mvt rfl) ?_
      refine os_ev (evq_bin rfl rfl rfl) ?_
      simp only [Vs.put, reduceIte, Nat.reduceEqDiff]
      refine os_ev (evq_mvt rfl) ?_
      simp only [runOs, thenQ, blockQ, Vs.put, reduceIte, Nat.reduceEqDiff]
      try simp only [thenQ, blockQ]
      refine ⟨(i + 1, .rf 1 [(i, 1)] 1 0 cache[i].2.length, cache[i].2), ?_, ?_, rfl, [(2, 2), (0, 0), (1, 1)], by decide, ?_, ?_⟩
      ·exact ⟨by omega, rdL_hit hib h5, .inr ⟨i, hib, rfl, rfl⟩⟩
      ·first | omega | (dsimp only; omega)
      ·simp only [sel, Vs.get, upd, Vs.put, reduceIte, Nat.reduceEqDiff]
       repeat' (first | exact er_nil | refine er_un ?_ | refine er_cons rfl ?_ ?_)
       all_goals (try simp only [V.map, A.map, renC, Vs.get, reduceIte, Nat.reduceEqDiff, List.map_cons, List.map_nil, e1])
      ·repeat' (first | exact rr_nil | refine rr_cons 2 rfl rfl ?_ ?_ | refine rr_cons 0 rfl rfl ?_ ?_ | refine rr_cons 1 rfl rfl ?_ ?_)
       all_goals (try simp only [renRoot, renC, Vs.get, reduceIte, Nat.reduceEqDiff, List.map_cons, List.map_nil, e1])
     ·replace h5 := q1 h5
      refine sw_skip ?_
      simp only [thenQ, blockQ]
      refine sw_reg ?_
      unfold s55_6
      refine os_ev (evq_mvt rfl) ?_
      refine os_ev (evq_bin rfl rfl rfl) ?_
      refine os_ev (evq_mvt rfl) ?_
      simp only [runOs, thenQ, blockQ, Vs.put, reduceIte, Nat.reduceEqDiff]
      try simp only [thenQ, blockQ]
      refine ⟨(i + 1, c, b), ?_, ?_, rfl, [(2, 2), (0, 0), (1, 1)], by decide, ?_, ?_⟩
      ·exact ⟨by omega, (rdL_miss hib h5).trans hat, hcc⟩
      ·first | omega | (dsimp only; omega)
      ·simp only [sel, Vs.get, upd, Vs.put, reduceIte, Nat.reduceEqDiff]
       repeat' (first | exact er_nil | refine er_un ?_ | refine er_cons rfl ?_ ?_)
       all_goals (try simp only [V.map, A.map, renC, Vs.get, reduceIte, Nat.reduceEqDiff, List.map_cons, List.map_nil, e1])
       exact congrArg (fun x => V.a (A.c x)) hren
      ·repeat' (first | exact rr_nil | refine rr_cons 2 rfl rfl ?_ ?_ | refine rr_cons 0 rfl rfl ?_ ?_ | refine rr_cons 1 rfl rfl ?_ ?_)
       all_goals (try simp only [renRoot, renC, Vs.get, reduceIte, Nat.reduceEqDiff, List.map_cons, List.map_nil, e1])
    ·replace h4 := q1 h4
     have hib : i = cache.length := by omega
     subst hib
     rw [List.take_length] at hat
     rw [hat]
     have hbl : b.length < 2 ^ 45 := by
      rcases hcc with ⟨_, rfl⟩ | ⟨j, hj, _, rfl⟩
      ·exact hs _ (List.getElem_mem hk)
      ·exact hc _ (List.getElem_mem hj)
     refine sw_exit ?_
     refine q12 ?_
     refine sw_seq ?_
     refine sw_reg ?_
     unfold s55_9
     refine os_wro (by intros; nofun) ?_
     refine .inl ⟨_, rfl, _, rfl, ?_⟩
     refine q20 ?_
     refine q2 ?_
     refine os_ev (evq_mvt rfl) ?_
     simp only [Vs.put, reduceIte, Nat.reduceEqDiff]
     refine os_wro (by intros; nofun) ?_
     rcases hcc with ⟨rfl, hb0⟩ | ⟨j, hj, rfl, hb0⟩
     ·subst hb0
      refine app_bytes (l := []) (r2 := secs[k]) rfl rfl rfl rfl (by decide) (by simp only [St.node, Vs.get, reduceIte, Nat.reduceEqDiff, nodeAt, sD_get hk, Option.bind_some, List.getElem?_cons_zero]) (by simp) (by simp; omega) ?_
      simp only [setEnv, Vs.put, killEnv, reduceIte, Nat.reduceEqDiff, del, bD_len, List.drop_zero, List.take_length, List.nil_append, List.length_nil, Nat.reduceAdd, Nat.zero_add]
      refine os_ev (evq_mvt rfl) ?_
      simp only [runOs, thenQ, blockQ, Vs.put, reduceIte, Nat.reduceEqDiff]
      refine sw_ret ?_
      refine q3 ?_
      first | exact leaves_vals rfl rfl rfl (take_one rfl (by simp)) | exact leaves_a rfl rfl rfl (take_one rfl (by simp))
     ·subst hb0
      refine app_bytes (l := []) (r2 := cache[j].2) rfl rfl rfl rfl (by decide) (by simp only [St.node, Vs.get, reduceIte, Nat.reduceEqDiff, nodeAt, wD_get hj, Option.bind_some, List.getElem?_cons_zero, List.getElem?_cons_succ]) (by simp) (by simp; omega) ?_
      simp only [setEnv, Vs.put, killEnv, reduceIte, Nat.reduceEqDiff, del, bD_len, List.drop_zero, List.take_length, List.nil_append, List.length_nil, Nat.reduceAdd, Nat.zero_add]
      refine os_ev (evq_mvt rfl) ?_
      simp only [runOs, thenQ, blockQ, Vs.put, reduceIte, Nat.reduceEqDiff]
      refine sw_ret ?_
      refine q3 ?_
      first | exact leaves_vals rfl rfl rfl (take_one rfl (by simp)) | exact leaves_a rfl rfl rfl (take_one rfl (by simp))
end Go.Proofs.Ytgbapgjdkoojdaa
