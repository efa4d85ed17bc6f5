import Derived.Test.YtgbapgjdkoojdaaVsQ
import Derived.Test.YtgbapgjdkoojdaaVsSk
import Derived.Test.YtgbapgjdkoojdaaVsE29
set_option linter.unusedVariables false
set_option linter.unusedSimpArgs false
namespace Go.Proofs.Ytgbapgjdkoojdaa
open Go.Vs
set_option linter.unusedSimpArgs false
set_option linter.unusedVariables false
set_option maxHeartbeats 1000000
theorem runs43 (secs : List (List UInt8)) (cache : List Wr) (fuse : Int) (down : Bool) (n : Int) (b : List UInt8) (hl : secs.length < 2 ^ 39) (hm : cache.length < 2 ^ 39) (hs : ∀ b ∈ secs, b.length < 2 ^ 45) (hc : ∀ w ∈ cache, w.2.length < 2 ^ 45) (hb : b.length < 2 ^ 40) : Runs Try.prog 43 [.val true [(.rd, .sl 1 (sD secs)), (.rd, .sl 2 (wD cache)), (.rd, .lf (.int .i64 fuse)), (.rd, .lf (.bool down))], .val false [(.rd, .lf (.int .i64 n))], .val false [(.rd, .sl 1 (bD b))]] ⟨[(true, [.sl 1 (sD secs), .sl 2 (wD (wrDev secs cache fuse down n b).1), .lf (.int .i64 (wrDev secs cache fuse down n b).2.1), .lf (.bool (wrDev secs cache fuse down n b).2.2)])], [], []⟩ := by
 obtain ⟨c, hb, hs⟩ := body_of tr43
 refine runs_of_sw (is := [.load (some 4) (.t 6)]) Try.func43 hb hs (by kernel_rfl) (show 3 ≤ 56 by decide) ?_
 clear hb hs c
 refine q27 ?_
 unfold s43
 have e0 : IntKind.i64.wrap ((secs.length : Int) - 1) = (secs.length : Int) - 1 := wrap64 (by omega) (by omega)
 refine sw_seq ?_
 refine sw_reg ?_
 unfold s43_0
 refine os_wro (by intros; nofun) ?_
 refine ⟨_, rfl, ?_⟩
 refine q2 ?_
 refine os_wro (by intros; nofun) ?_
 simp only [wr]
 refine q2 ?_
 simp only [runOs, thenQ, blockQ, Vs.put, reduceIte, Nat.reduceEqDiff]
 refine sw_seq ?_
 refine sw_reg ?_
 unfold s43_1
 refine q9 ?_
 refine q0 ?_
 refine os_callo ?_
 refine q6 ?_
 refine ⟨_, _, runs99 secs cache fuse down (by omega) (by omega) hs hc, _, rfl, _, rfl, by simp [handIo, handBx], fa_cons (⟨rfl, .inl rfl, by simp [handIo, handBx], _, rfl, by simp, by first | rfl | (simp; done) | exact (List.take_of_length_le (by simp)).symm⟩) (fa_cons (⟨rfl, .inl rfl, by simp [handIo, handBx], _, rfl, by simp, by first | rfl | (simp; done) | exact (List.take_of_length_le (by simp)).symm⟩) (fa_cons (rfl) (fa_cons (rfl) (fa_nil)))), _, rfl, _, rfl, ?_⟩
 refine q7 ?_
 refine q2 ?_
 refine os_wro (by intros; nofun) ?_
 simp only [wr]
 refine q2 ?_
 refine os_wro (by intros; nofun) ?_
 refine st_box rfl rfl rfl rfl (Nat.le_of_ble_eq_true rfl) ?_
 refine q0 ?_
 refine q2 ?_
 simp only [runOs, thenQ, blockQ, Vs.put, reduceIte, Nat.reduceEqDiff]
 refine sw_seq ?_
 refine sw_seq ?_
 refine sw_reg ?_
 unfold s43_2
 refine q9 ?_
 refine q0 ?_
 refine os_callo ?_
 refine q6 ?_
 refine ⟨_, _, runs41 secs cache fuse down (by omega) (by omega), _, rfl, _, rfl, by simp [handIo, handBx], fa_cons (⟨rfl, .inl rfl, by simp [handIo, handBx], _, rfl, by simp, by first | rfl | (simp; done) | exact (List.take_of_length_le (by simp)).symm⟩) (fa_cons (⟨rfl, .inl rfl, by simp [handIo, handBx], _, rfl, by simp, by first | rfl | (simp; done) | exact (List.take_of_length_le (by simp)).symm⟩) (fa_cons (rfl) (fa_cons (rfl) (fa_nil)))), _, rfl, _, rfl, ?_⟩
 refine q7 ?_
 refine q2 ?_
 refine os_ev (evq_un rfl rfl) ?_
 refine os_ev (evq_mvt rfl) ?_
 refine os_gs rfl (fun g14 => ?_) (fun g14 => ?_)
 ·try simp only [g14]
  replace g14 := q1 g14
  refine os_gno rfl (by decide) ?_
  refine os_gno rfl (by decide) ?_
  refine os_ev (evq_pickt rfl rfl) ?_
  refine os_ev (evq_mvt rfl) ?_
  refine os_gno rfl (by decide) ?_
  refine os_gno rfl (by decide) ?_
  refine os_gno rfl (by decide) ?_
  refine os_gno rfl (by decide) ?_
  simp only [Vs.put, reduceIte, Nat.reduceEqDiff]
  refine os_gno rfl (by decide) ?_
  refine os_gno rfl (by decide) ?_
  refine os_gno rfl (by decide) ?_
  refine os_ev (evq_pickt rfl rfl) ?_
  refine os_ev (evq_mvt rfl) ?_
  refine os_gno rfl (by decide) ?_
  refine os_gno rfl (by decide) ?_
  refine os_gno rfl (by decide) ?_
  simp only [Vs.put, reduceIte, Nat.reduceEqDiff]
  refine os_ev (evq_pickt rfl rfl) ?_
  refine os_ev (evq_mvt rfl) ?_
  refine os_gno rfl (by decide) ?_
  refine os_gno rfl (by decide) ?_
  simp only [Vs.put, reduceIte, Nat.reduceEqDiff]
  refine os_gno rfl (by decide) ?_
  refine os_gno rfl (by decide) ?_
  refine os_ev (evq_pickt rfl rfl) ?_
  simp only [runOs, thenQ, blockQ, Vs.put, reduceIte, Nat.reduceEqDiff]
  refine sw_cond rfl (fun h1 => ?_) (fun h1 => ?_)
  ·replace h1 := q1 h1
   refine sw_seq ?_
   refine sw_reg ?_
   unfold s43_3
   refine q9 ?_
   refine q0 ?_
   refine os_wro (by intros; nofun) ?_
   refine st_box rfl rfl rfl rfl (Nat.le_of_ble_eq_true rfl) ?_
   refine q0 ?_
   refine q2 ?_
   simp only [runOs, thenQ, blockQ, Vs.put, reduceIte, Nat.reduceEqDiff]
   refine sw_ret ?_
   refine q3 ?_
   rw [wrDev_no (by simp_all)]
   refine ⟨_, rfl, Nat.le_of_ble_eq_true rfl, ?_⟩
   refine q13 ?_
   exact leaves_a rfl rfl rfl (take_cons rfl (by simp) (take_cons rfl (by simp) (take_lf (take_lf rfl))))
  ·exact absurd h1 (by simp at h1)
 ·try simp only [g14]
  replace g14 := q1 g14
  refine os_gdo rfl ?_
  refine q5 ?_
  refine q0 ?_
  refine os_gdo rfl ?_
  refine q8 ?_
  refine q0 ?_
  simp only [Vs.put, reduceIte, Nat.reduceEqDiff]
  refine os_ev (evq_pickf rfl rfl) ?_
  refine os_ev (evq_mvt rfl) ?_
  refine os_gs rfl (fun g18 => ?_) (fun g18 => ?_)
  ·try simp only [g18]
   replace g18 := q1 g18
   refine os_gno rfl (by decide) ?_
   refine os_gno rfl (by decide) ?_
   refine os_gno rfl (by decide) ?_
   refine os_gno rfl (by decide) ?_
   simp only [Vs.put, reduceIte, Nat.reduceEqDiff]
   refine os_gno rfl (by decide) ?_
   refine os_gno rfl (by decide) ?_
   refine os_gno rfl (by decide) ?_
   refine os_ev (evq_pickt rfl rfl) ?_
   simp only [Vs.put, reduceIte, Nat.reduceEqDiff]
   refine os_ev (evq_mvt rfl) ?_
   refine os_gno rfl (by decide) ?_
   refine os_gno rfl (by decide) ?_
   refine os_gno rfl (by decide) ?_
   simp only [Vs.put, reduceIte, Nat.reduceEqDiff]
   refine os_ev (evq_pickt rfl rfl) ?_
   simp only [Vs.put, reduceIte, Nat.reduceEqDiff]
   refine os_ev (evq_mvt rfl) ?_
   refine os_gno rfl (by decide) ?_
   refine os_gno rfl (by decide) ?_
   simp only [Vs.put, reduceIte, Nat.reduceEqDiff]
   refine os_gno rfl (by decide) ?_
   refine os_gno rfl (by decide) ?_
   refine os_ev (evq_pickt rfl rfl) ?_
   simp only [runOs, thenQ, blockQ, Vs.put, reduceIte, Nat.reduceEqDiff]
   refine sw_cond rfl (fun h1 => ?_) (fun h1 => ?_)
   ·replace h1 := q1 h1
    refine sw_seq ?_
    refine sw_reg ?_
    unfold s43_3
    refine q9 ?_
    refine q0 ?_
    refine os_wro (by intros; nofun) ?_
    refine st_box rfl rfl rfl rfl (Nat.le_of_ble_eq_true rfl) ?_
    refine q0 ?_
    refine q2 ?_
    simp only [runOs, thenQ, blockQ, Vs.put, reduceIte, Nat.reduceEqDiff]
    refine sw_ret ?_
    refine q3 ?_
    obtain ⟨hd1, hd2, hd3, hd4⟩ := dev_of g14
    rw [wrDev_ok g14, wrC_no (by first | exact .inl rfl | omega | (simp only [e0] at *; omega))]
    refine ⟨_, rfl, Nat.le_of_ble_eq_true rfl, ?_⟩
    refine q13 ?_
    exact leaves_a rfl rfl rfl (take_cons rfl (by simp) (take_cons rfl (by simp) (take_lf (take_lf rfl))))
   ·exact absurd h1 (by simp at h1)
  ·try simp only [g18]
   replace g18 := q1 g18
   subst g18
   refine os_gdo rfl ?_
   refine os_ev (evq_mvt rfl) ?_
   refine os_gdo rfl ?_
   refine q5 ?_
   refine q0 ?_
   refine os_gdo rfl ?_
   refine q8 ?_
   refine q0 ?_
   simp only [Vs.put, reduceIte, Nat.reduceEqDiff]
   refine os_gdo rfl ?_
   refine q10 ?_
   refine os_gdo rfl ?_
   refine os_ev (evq_bin rfl rfl rfl) ?_
   simp only [e0]
   refine os_gdo rfl ?_
   refine os_callo ?_
   refine q6 ?_
   refine ⟨_, _, runs77 n 0 ((secs.length : Int) - 1), _, rfl, _, rfl, by simp [handIo, handBx], fa_cons (rfl) (fa_cons (rfl) (fa_cons (rfl) (fa_nil))), _, rfl, _, rfl, ?_⟩
   refine q7 ?_
   refine q2 ?_
   refine os_gdo rfl ?_
   refine os_ev (evq_un rfl rfl) ?_
   refine os_ev (evq_pickf rfl rfl) ?_
   refine os_ev (evq_mvt rfl) ?_
   simp only [Vs.put, reduceIte, Nat.reduceEqDiff]
   refine os_gs rfl (fun g27 => ?_) (fun g27 => ?_)
   ·try simp only [g27]
    replace g27 := q1 g27
    refine os_gno rfl (by decide) ?_
    refine os_gno rfl (by decide) ?_
    refine os_gno rfl (by decide) ?_
    refine os_ev (evq_pickt rfl rfl) ?_
    refine os_ev (evq_mvt rfl) ?_
    simp only [Vs.put, reduceIte, Nat.reduceEqDiff]
    refine os_gno rfl (by decide) ?_
    refine os_gno rfl (by decide) ?_
    refine os_gno rfl (by decide) ?_
    simp only [Vs.put, reduceIte, Nat.reduceEqDiff]
    refine os_gno rfl (by decide) ?_
    refine os_ev (evq_pickt rfl rfl) ?_
    simp only [Vs.put, reduceIte, Nat.reduceEqDiff]
    simp only [runOs, thenQ, blockQ, Vs.put, reduceIte, Nat.reduceEqDiff]
    refine sw_cond rfl (fun h1 => ?_) (fun h1 => ?_)
    ·replace h1 := q1 h1
     refine sw_seq ?_
     refine sw_reg ?_
     unfold s43_3
     refine q9 ?_
     refine q0 ?_
     refine os_wro (by intros; nofun) ?_
     refine st_box rfl rfl rfl rfl (Nat.le_of_ble_eq_true rfl) ?_
     refine q0 ?_
     refine q2 ?_
     simp only [runOs, thenQ, blockQ, Vs.put, reduceIte, Nat.reduceEqDiff]
     refine sw_ret ?_
     refine q3 ?_
     obtain ⟨hd1, hd2, hd3, hd4⟩ := dev_of g14
     rw [wrDev_ok g14, wrC_no (by first | exact .inl rfl | omega | (simp only [e0] at *; omega))]
     refine ⟨_, rfl, Nat.le_of_ble_eq_true rfl, ?_⟩
     refine q13 ?_
     exact leaves_a rfl rfl rfl (take_cons rfl (by simp) (take_cons rfl (by simp) (take_lf (take_lf rfl))))
    ·exact absurd h1 (by simp at h1)
   ·try simp only [g27]
    replace g27 := q1 g27
    refine os_gdo rfl ?_
    refine os_ev (evq_mvt rfl) ?_
    refine os_gdo rfl ?_
    refine q10 ?_
    refine os_gdo rfl ?_
    refine os_ev (evq_bin rfl rfl rfl) ?_
    refine os_ev (evq_pickf rfl rfl) ?_
    simp only [Vs.put, reduceIte, Nat.reduceEqDiff]
    refine os_ev (evq_mvt rfl) ?_
    refine os_gs rfl (fun g32 => ?_) (fun g32 => ?_)
    ·try simp only [g32]
     replace g32 := q1 g32
     refine os_gno rfl (by decide) ?_
     refine os_gno rfl (by decide) ?_
     refine os_gno rfl (by decide) ?_
     refine os_gno rfl (by decide) ?_
     simp only [Vs.put, reduceIte, Nat.reduceEqDiff]
     refine os_ev (evq_pickt rfl rfl) ?_
     simp only [runOs, thenQ, blockQ, Vs.put, reduceIte, Nat.reduceEqDiff]
     refine sw_cond rfl (fun h1 => ?_) (fun h1 => ?_)
     ·replace h1 := q1 h1
      refine sw_seq ?_
      refine sw_reg ?_
      unfold s43_3
      refine q9 ?_
      refine q0 ?_
      refine os_wro (by intros; nofun) ?_
      refine st_box rfl rfl rfl rfl (Nat.le_of_ble_eq_true rfl) ?_
      refine q0 ?_
      refine q2 ?_
      simp only [runOs, thenQ, blockQ, Vs.put, reduceIte, Nat.reduceEqDiff]
      refine sw_ret ?_
      refine q3 ?_
      obtain ⟨hd1, hd2, hd3, hd4⟩ := dev_of g14
      rw [wrDev_ok g14, wrC_no (by first | exact .inl rfl | omega | (simp only [e0] at *; omega))]
      refine ⟨_, rfl, Nat.le_of_ble_eq_true rfl, ?_⟩
      refine q13 ?_
      exact leaves_a rfl rfl rfl (take_cons rfl (by simp) (take_cons rfl (by simp) (take_lf (take_lf rfl))))
     ·exact absurd h1 (by simp at h1)
    ·try simp only [g32]
     replace g32 := q1 g32
     refine os_gdo rfl ?_
     refine q5 ?_
     refine q0 ?_
     refine os_gdo rfl ?_
     refine q8 ?_
     refine q0 ?_
     refine os_gdo rfl ?_
     refine q10 ?_
     simp only [Vs.put, reduceIte, Nat.reduceEqDiff]
     refine os_gdo rfl ?_
     refine os_ev (evq_bin rfl rfl rfl) ?_
     refine os_ev (evq_pickf rfl rfl) ?_
     simp only [runOs, thenQ, blockQ, Vs.put, reduceIte, Nat.reduceEqDiff]
     refine sw_cond rfl (fun h1 => ?_) (fun h1 => ?_)
     ·replace h1 := q1 h1
      refine sw_seq ?_
      refine sw_reg ?_
      unfold s43_3
      refine q9 ?_
      refine q0 ?_
      refine os_wro (by intros; nofun) ?_
      refine st_box rfl rfl rfl rfl (Nat.le_of_ble_eq_true rfl) ?_
      refine q0 ?_
      refine q2 ?_
      simp only [runOs, thenQ, blockQ, Vs.put, reduceIte, Nat.reduceEqDiff]
      refine sw_ret ?_
      refine q3 ?_
      obtain ⟨hd1, hd2, hd3, hd4⟩ := dev_of g14
      rw [wrDev_ok g14, wrC_no (by first | exact .inl rfl | omega | (simp only [e0] at *; omega))]
      refine ⟨_, rfl, Nat.le_of_ble_eq_true rfl, ?_⟩
      refine q13 ?_
      exact leaves_a rfl rfl rfl (take_cons rfl (by simp) (take_cons rfl (by simp) (take_lf (take_lf rfl))))
     ·replace h1 := q1 h1
      obtain ⟨hd1, hd2, hd3, hd4⟩ := dev_of g14
      refine sw_skip ?_
      simp only [thenQ, blockQ]
      refine sw_seq ?_
      refine sw_reg ?_
      unfold s43_4
      refine q9 ?_
      refine q0 ?_
      refine os_callo ?_
      refine q6 ?_
      refine ⟨_, _, runs100 secs cache fuse false hd3, _, rfl, _, (take_cons rfl (by simp) (take_cons rfl (by simp) rfl)), by simp [handIo, handBx], fa_cons (trivial) (fa_cons (trivial) (fa_cons (rfl) (fa_cons (rfl) (fa_nil)))), _, rfl, _, rfl, ?_⟩
      refine q7 ?_
      refine q2 ?_
      refine os_ev (evq_mvt rfl) ?_
      simp only [Vs.put, reduceIte, Nat.reduceEqDiff]
      refine os_ev (evq_ext rfl rfl) ?_
      refine os_ev (evq_ext rfl rfl) ?_
      refine os_wro (by intros; nofun) ?_
      refine st_box rfl rfl rfl rfl (Nat.le_of_ble_eq_true rfl) ?_
      refine q0 ?_
      refine q2 ?_
      refine os_ev (evq_mvt rfl) ?_
      simp only [runOs, thenQ, blockQ, Vs.put, reduceIte, Nat.reduceEqDiff]
      refine sw_seq ?_
      refine sw_seq ?_
      refine sw_reg ?_
      unfold s43_5
      refine os_ev (evq_mvt rfl) ?_
      simp only [runOs, thenQ, blockQ, Vs.put, reduceIte, Nat.reduceEqDiff]
      refine sw_cond rfl (fun h3 => ?_) (fun h3 => ?_)
      ·have hz : ¬ fuse = 0 := by simpa [opR] using h3
       obtain ⟨z2, _⟩ := op_pos (down := false) hz
       rw [wrDev_ok g14, wrC_yes (by simp; omega) hz]
       simp only [z2]
       refine sw_go rfl rfl ?_
       unfold s43_6
       first | refine rd_ev (evq_fadb rfl) rfl ?_ | refine rd_ev (evq_fade rfl) rfl ?_
       refine q0 ?_
       first | refine rd_m1 (evq_ldb rfl rfl rfl) fa_nil rfl (Nat.le_of_ble_eq_true rfl) ?_ | refine rd_m1 (evq_ldl rfl rfl (rfl) rfl) fa_nil rfl (Nat.le_of_ble_eq_true rfl) ?_ | refine rd_m1 (evq_lds rfl rfl (rfl) rfl) fa_nil rfl (Nat.le_of_ble_eq_true rfl) ?_
       refine q0 ?_
       refine rd_ev (evq_mvt rfl) rfl ?_
       simp only [Vs.put, reduceIte, Nat.reduceEqDiff]
       refine rd_ev (evq_mvt rfl) rfl ?_
       refine rd_wr (by intros; nofun) ?_
       refine .inr ⟨_, rfl, ?_⟩
       refine q24 ?_
       refine ⟨by first | rfl | trivial, (fa_cons (fun _ => by first | exact pd_ev (evq_ldb rfl rfl rfl) | exact pd_ev (evq_ldl rfl rfl (rfl) rfl) | exact pd_ev (evq_lds rfl rfl (rfl) rfl)) fa_nil), ?_⟩
       refine q2 ?_
       refine rd_see ?_
       refine q6 ?_
       refine ⟨[(false, [.sl 1 (sD [b])])], _, runs101 [b] (by simp) (by simp only [List.flatten_cons, List.flatten_nil, List.append_nil]; omega), ⟨see_sb1 rfl (see_bytes rfl (by simp)), trivial⟩, ?_⟩
       refine q25 ?_
       refine ⟨by first | rfl | trivial, (fa_cons (fun _ => by first | exact pd_ev (evq_ldb rfl rfl rfl) | exact pd_ev (evq_ldl rfl rfl (rfl) rfl) | exact pd_ev (evq_lds rfl rfl (rfl) rfl)) fa_nil), ?_⟩
       refine q2 ?_
       refine rd_ev (evq_build rfl) rfl ?_
       refine q0 ?_
       refine rd_wr (by intros; nofun) ?_
       refine .inl ⟨[.lf (.int .i64 n), .rf 11 [] 1 0 b.length], rfl, ([.lf (.int .i64 n), .sl 1 (bD b)], _), take_lf (take_cons rfl (by simp) rfl), ?_⟩
       refine q22 ?_
       refine ⟨by first | rfl | trivial, (fa_cons (fun _ => by first | exact pd_ev (evq_ldb rfl rfl rfl) | exact pd_ev (evq_ldl rfl rfl (rfl) rfl) | exact pd_ev (evq_lds rfl rfl (rfl) rfl)) fa_nil), ?_⟩
       refine q2 ?_
       refine rd_wr (by intros; nofun) ?_
       refine app_elem (es := wD cache) (e := [.lf (.int .i64 n), .sl 1 (bD b)]) rfl rfl (by simp) rfl (by decide) rfl (by simp; omega) ?_
       rw [show wD cache ++ [[D.lf (.int .i64 n), .sl 1 (bD b)]] = wD (cache ++ [(n, b)]) from wD_snoc cache (n, b)]
       simp only [wD_len]
       refine ⟨by first | rfl | trivial, (fa_cons (fun h => absurd h (Nat.not_le.2 (Nat.le_of_ble_eq_true rfl))) fa_nil), ?_⟩
       refine q2 ?_
       first | refine rd_ev (evq_fadb rfl) rfl ?_ | refine rd_ev (evq_fade rfl) rfl ?_
       refine q0 ?_
       refine rd_wr (by intros; nofun) ?_
       refine st_box rfl rfl rfl rfl (Nat.le_of_ble_eq_true rfl) ?_
       refine q0 ?_
       refine ⟨by first | rfl | trivial, (fa_cons (fun h => absurd h (Nat.not_le.2 (Nat.le_of_ble_eq_true rfl))) fa_nil), ?_⟩
       refine q2 ?_
       refine rd_nil ?_
       simp only [thenQ, blockQ, Vs.put, reduceIte, Nat.reduceEqDiff]
       refine sw_seq ?_
       refine sw_reg ?_
       unfold s43_7
       refine q9 ?_
       refine q0 ?_
       simp only [Vs.put, reduceIte, Nat.reduceEqDiff]
       refine os_wro (by intros; nofun) ?_
       refine st_box rfl rfl rfl rfl (Nat.le_of_ble_eq_true rfl) ?_
       refine q0 ?_
       refine q2 ?_
       simp only [runOs, thenQ, blockQ, Vs.put, reduceIte, Nat.reduceEqDiff]
       refine sw_ret ?_
       refine q3 ?_
       refine ⟨_, rfl, Nat.le_of_ble_eq_true rfl, ?_⟩
       refine q13 ?_
       exact leaves_a rfl rfl rfl (take_cons rfl (by simp) (take_cons rfl (by simp) (take_lf (take_lf rfl))))
      ·have hz : fuse = 0 := by simpa [opR] using h3
       obtain ⟨z1, z2, _⟩ := op_zero (down := false) hz
       simp only [z1, z2]
       rw [wrDev_ok g14, wrC_zero (by simp; omega) hz]
       refine sw_skip ?_
       simp only [thenQ, blockQ]
       refine sw_seq ?_
       refine sw_reg ?_
       unfold s43_7
       refine q9 ?_
       refine q0 ?_
       refine os_wro (by intros; nofun) ?_
       refine st_box rfl rfl rfl rfl (Nat.le_of_ble_eq_true rfl) ?_
       refine q0 ?_
       refine q2 ?_
       simp only [runOs, thenQ, blockQ, Vs.put, reduceIte, Nat.reduceEqDiff]
       refine sw_ret ?_
       refine q3 ?_
       refine ⟨_, rfl, Nat.le_of_ble_eq_true rfl, ?_⟩
       refine q13 ?_
       exact leaves_a rfl rfl rfl (take_cons rfl (by simp) (take_cons rfl (by simp) (take_lf (take_lf rfl))))
end Go.Proofs.Ytgbapgjdkoojdaa
