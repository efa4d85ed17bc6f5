import Derived.Test.YtgbapgjdkoojdaaVsQ
import Derived.Test.YtgbapgjdkoojdaaVsE14
import Derived.Test.YtgbapgjdkoojdaaVsE15
import Derived.Test.YtgbapgjdkoojdaaVsW2
set_option linter.unusedVariables false
set_option linter.unusedSimpArgs false
namespace Go.Proofs.Ytgbapgjdkoojdaa
open Go.Vs
set_option linter.unusedSimpArgs false
set_option linter.unusedVariables false
set_option maxHeartbeats 1000000
theorem runs31 (secs : List (List UInt8)) (cache : List Wr) (fuse : Int) (down : Bool) (hs : ∀ b ∈ secs, b.length < 2 ^ 62) (hl : secs.length < 2 ^ 62) (hc : ∀ w ∈ cache, w.2.length < 2 ^ 62) (hm : cache.length < 2 ^ 62) : Runs Try.prog 31 [.val true [(.rd, .sl 1 (sD secs)), (.rd, .sl 2 (wD cache)), (.rd, .lf (.int .i64 fuse)), (.rd, .lf (.bool down))], .val true [(.rd, .sl 1 (sD secs)), (.rd, .sl 2 (wD cache)), (.rd, .lf (.int .i64 fuse)), (.rd, .lf (.bool down))]] ⟨[(false, [.lf (.bool true)])], [], []⟩ := by
 obtain ⟨c, hb, hs⟩ := body_of tr31
 refine runs_of_sw Try.func31 hb hs rfl (show 2 ≤ 27 by decide) ?_
 clear hb hs c
 refine q17 ?_
 unfold s31
 refine sw_seq ?_
 refine sw_reg ?_
 unfold s31_0
 refine os_wro (by intros; nofun) ?_
 refine ⟨_, rfl, ?_⟩
 refine q11 ?_
 refine os_wro (by intros; nofun) ?_
 refine ⟨_, rfl, ?_⟩
 refine q11 ?_
 refine os_ev (evq_mvk) ?_
 simp only [runOs, thenQ, blockQ, Vs.put, reduceIte, Nat.reduceEqDiff]
 refine sw_seq ?_
 refine sw_seq ?_
 refine sw_reg ?_
 unfold s31_1
 refine q5 ?_
 refine q0 ?_
 refine q8 ?_
 refine q0 ?_
 refine q5 ?_
 refine q0 ?_
 refine q8 ?_
 refine q0 ?_
 simp only [Vs.put, reduceIte, Nat.reduceEqDiff]
 refine os_callo ?_
 refine q6 ?_
 refine ⟨_, _, runs83 secs hs hl, _, rfl, _, rfl, by simp [handIo, handBx], fa_cons (⟨rfl, .inl rfl, by simp [handIo, handBx], _, rfl, by simp, by first | rfl | (simp; done) | exact (List.take_of_length_le (by simp)).symm⟩) (fa_cons (⟨rfl, .inl rfl, by simp [handIo, handBx], _, rfl, by simp, by first | rfl | (simp; done) | exact (List.take_of_length_le (by simp)).symm⟩) (fa_nil)), _, rfl, _, rfl, ?_⟩
 refine q7 ?_
 refine q11 ?_
 refine os_ev (evq_un rfl rfl) ?_
 simp only [runOs, thenQ, blockQ, Vs.put, reduceIte, Nat.reduceEqDiff]
 refine sw_cond rfl (fun h1 => ?_) (fun h1 => ?_)
 ·exact absurd h1 (by simp at h1)
 ·replace h1 := q1 h1
  refine sw_skip ?_
  simp only [thenQ, blockQ]
  refine sw_seq ?_
  refine sw_seq ?_
  refine sw_reg ?_
  unfold s31_3
  refine q5 ?_
  refine q0 ?_
  refine q8 ?_
  refine q0 ?_
  refine q5 ?_
  refine q0 ?_
  refine q8 ?_
  refine q0 ?_
  simp only [Vs.put, reduceIte, Nat.reduceEqDiff]
  refine os_callo ?_
  refine q6 ?_
  refine ⟨_, _, runs84 cache hc hm, _, rfl, _, rfl, by simp [handIo, handBx], fa_cons (⟨rfl, .inl rfl, by simp [handIo, handBx], _, rfl, by simp, by first | rfl | (simp; done) | exact (List.take_of_length_le (by simp)).symm⟩) (fa_cons (⟨rfl, .inl rfl, by simp [handIo, handBx], _, rfl, by simp, by first | rfl | (simp; done) | exact (List.take_of_length_le (by simp)).symm⟩) (fa_nil)), _, rfl, _, rfl, ?_⟩
  refine q7 ?_
  refine q11 ?_
  refine os_ev (evq_un rfl rfl) ?_
  simp only [runOs, thenQ, blockQ, Vs.put, reduceIte, Nat.reduceEqDiff]
  refine sw_cond rfl (fun h3 => ?_) (fun h3 => ?_)
  ·exact absurd h3 (by simp at h3)
  ·replace h3 := q1 h3
   refine sw_skip ?_
   simp only [thenQ, blockQ]
   refine sw_seq ?_
   refine sw_seq ?_
   refine sw_reg ?_
   unfold s31_5
   refine q5 ?_
   refine q0 ?_
   refine q8 ?_
   refine q0 ?_
   refine q5 ?_
   refine q0 ?_
   refine q8 ?_
   refine q0 ?_
   simp only [Vs.put, reduceIte, Nat.reduceEqDiff]
   refine os_ev (evq_bin rfl rfl rfl) ?_
   simp only [runOs, thenQ, blockQ, Vs.put, reduceIte, Nat.reduceEqDiff]
   refine sw_cond rfl (fun h5 => ?_) (fun h5 => ?_)
   ·exact absurd h5 (by simp at h5)
   ·replace h5 := q1 h5
    refine sw_skip ?_
    simp only [thenQ, blockQ]
    refine sw_seq ?_
    refine sw_seq ?_
    refine sw_reg ?_
    unfold s31_7
    refine q5 ?_
    refine q0 ?_
    refine q8 ?_
    refine q0 ?_
    refine q5 ?_
    refine q0 ?_
    refine q8 ?_
    refine q0 ?_
    simp only [Vs.put, reduceIte, Nat.reduceEqDiff]
    refine os_ev (evq_beq rfl rfl) ?_
    try simp only [if_true, if_false, Bool.false_eq_true]
    simp only [runOs, thenQ, blockQ, Vs.put, reduceIte, Nat.reduceEqDiff]
    refine sw_cond rfl (fun h7 => ?_) (fun h7 => ?_)
    ·exact absurd h7 (by simp at h7)
    ·replace h7 := q1 h7
     refine sw_skip ?_
     simp only [thenQ, blockQ]
     refine sw_seq ?_
     refine sw_reg ?_
     unfold s31_9
     refine os_ev (evq_mvk) ?_
     simp only [runOs, thenQ, blockQ, Vs.put, reduceIte, Nat.reduceEqDiff]
     refine sw_ret ?_
     refine q3 ?_
     first | exact leaves_vals rfl rfl rfl rfl | exact leaves_a rfl rfl rfl rfl
theorem runs32 (secs : List (List UInt8)) (cache : List Wr) (fuse : Int) (down : Bool) (n : Nat) (h : n + szL szB secs + szL szW cache + secs.length + cache.length < 2 ^ 62) : Runs Try.prog 32 [.val true [(.io, .sl 1 (sD secs)), (.io, .sl 2 (wD cache)), (.rd, .lf (.int .i64 fuse)), (.rd, .lf (.bool down))], .val false [(.rd, .lf (.int .i64 n))]] ⟨[(false, [.lf (.int .i64 ((n + szL szB secs + szL szW cache : Nat) : Int))])], [(1, sD (mkL szB mkB n secs)), (2, wD (mkL szW mkW (n + szL szB secs) cache))], []⟩ := by
 obtain ⟨c, hb, hs⟩ := body_of tr32
 refine runs_of_sw Try.func32 hb hs rfl (show 2 ≤ 14 by decide) ?_
 clear hb hs c
 refine q17 ?_
 unfold s32
 refine sw_seq ?_
 refine sw_reg ?_
 unfold s32_0
 refine os_wro (by intros; nofun) ?_
 refine ⟨_, rfl, ?_⟩
 refine q11 ?_
 refine os_ev (evq_mvk) ?_
 simp only [runOs, thenQ, blockQ, Vs.put, reduceIte, Nat.reduceEqDiff]
 refine sw_seq ?_
 refine sw_reg ?_
 unfold s32_1
 refine q5 ?_
 refine q0 ?_
 refine q8 ?_
 refine q0 ?_
 refine os_ev (evq_mvt rfl) ?_
 refine os_callo ?_
 refine q6 ?_
 refine ⟨_, _, runs85 secs n (by omega), _, rfl, _, rfl, by simp [handIo, handBx], fa_cons (⟨rfl, rfl, by simp, _, _, rfl, rfl⟩) (fa_cons (rfl) (fa_nil)), _, rfl, _, rfl, ?_⟩
 refine q7 ?_
 refine q11 ?_
 refine os_ev (evq_mvt rfl) ?_
 simp only [Vs.put, reduceIte, Nat.reduceEqDiff]
 simp only [runOs, thenQ, blockQ, Vs.put, reduceIte, Nat.reduceEqDiff]
 refine sw_seq ?_
 refine sw_reg ?_
 unfold s32_2
 refine q5 ?_
 refine q0 ?_
 refine q8 ?_
 refine q0 ?_
 refine os_ev (evq_mvt rfl) ?_
 refine os_callo ?_
 refine q6 ?_
 refine ⟨_, _, runs86 cache (n + szL szB secs) (by omega), _, rfl, _, rfl, by simp [handIo, handBx], fa_cons (⟨rfl, rfl, by simp, _, _, rfl, rfl⟩) (fa_cons (rfl) (fa_nil)), _, rfl, _, rfl, ?_⟩
 refine q7 ?_
 refine q11 ?_
 refine os_ev (evq_mvt rfl) ?_
 simp only [runOs, thenQ, blockQ, Vs.put, reduceIte, Nat.reduceEqDiff]
 refine sw_seq ?_
 refine sw_reg ?_
 unfold s32_3
 refine os_ev (evq_mvt rfl) ?_
 simp only [Vs.put, reduceIte, Nat.reduceEqDiff]
 refine os_ev (evq_mvt rfl) ?_
 simp only [runOs, thenQ, blockQ, Vs.put, reduceIte, Nat.reduceEqDiff]
 refine sw_ret ?_
 refine q3 ?_
 first | exact leaves_ioa rfl rfl (take_lf rfl) ⟨⟨rfl, rfl, by simp [mkL_len]⟩, ⟨rfl, rfl, by simp [mkL_len]⟩, trivial⟩ | exact leaves_io rfl rfl rfl ⟨⟨rfl, rfl, by simp [mkL_len]⟩, ⟨rfl, rfl, by simp [mkL_len]⟩, trivial⟩
theorem runs33 (secs : List (List UInt8)) (cache : List Wr) (fuse : Int) (down : Bool) (n : Nat) (h : n + szL szB secs + szL szW cache + secs.length + cache.length < 2 ^ 62) : Runs Try.prog 33 [.val true [(.rd, .sl 1 (sD (mkL szB mkB n secs))), (.rd, .sl 2 (wD (mkL szW mkW (n + szL szB secs) cache))), (.rd, .lf (.int .i64 fuse)), (.rd, .lf (.bool down))], .val false [(.rd, .lf (.int .i64 n))]] ⟨[(false, [.lf (.int .i64 ((n + szL szB secs + szL szW cache : Nat) : Int))])], [], []⟩ := by
 obtain ⟨c, hb, hs⟩ := body_of tr33
 refine runs_of_sw Try.func33 hb hs rfl (show 2 ≤ 18 by decide) ?_
 clear hb hs c
 simp only [inAs, inCells, flat, List.flatMap_cons, List.flatMap_nil, Arg.cells, List.cons_append, List.nil_append, inCs, inC, fixN, fixCs, fixC, nBox, inV, inB, rootB, List.length_cons, List.length_nil, List.take_succ_cons, List.take_zero, List.drop_succ_cons, List.drop_zero, env0, Nat.zero_add, Nat.add_zero, List.append_nil, Nat.reduceAdd, sD_len, wD_len, mkL_len]
 unfold s33
 refine sw_seq ?_
 refine sw_reg ?_
 unfold s33_0
 refine os_wro (by intros; nofun) ?_
 refine ⟨_, rfl, ?_⟩
 refine q11 ?_
 refine os_ev (evq_mvk) ?_
 simp only [runOs, thenQ, blockQ, Vs.put, reduceIte, Nat.reduceEqDiff]
 refine sw_seq ?_
 refine sw_reg ?_
 unfold s33_1
 refine q5 ?_
 refine q0 ?_
 refine q8 ?_
 refine q0 ?_
 refine os_ev (evq_mvt rfl) ?_
 refine os_callo ?_
 refine q6 ?_
 refine ⟨_, _, runs87 secs n (by omega), _, rfl, _, rfl, by simp [handIo, handBx], fa_cons (⟨rfl, .inl rfl, by simp [handIo, handBx], _, rfl, by simp [mkL_len], by first | rfl | (simp; done) | exact (List.take_of_length_le (by simp [mkL_len])).symm⟩) (fa_cons (rfl) (fa_nil)), _, rfl, _, rfl, ?_⟩
 refine q7 ?_
 refine q11 ?_
 refine os_ev (evq_mvt rfl) ?_
 simp only [Vs.put, reduceIte, Nat.reduceEqDiff]
 simp only [runOs, thenQ, blockQ, Vs.put, reduceIte, Nat.reduceEqDiff]
 refine sw_seq ?_
 refine sw_seq ?_
 refine sw_reg ?_
 unfold s33_2
 refine os_ev (evq_mvt rfl) ?_
 refine os_ev (evq_bin rfl rfl rfl) ?_
 simp only [runOs, thenQ, blockQ, Vs.put, reduceIte, Nat.reduceEqDiff]
 refine sw_cond rfl (fun h1 => ?_) (fun h1 => ?_)
 ·exact absurd h1 (by simp at h1; omega)
 ·replace h1 := q1 h1
  refine sw_skip ?_
  simp only [thenQ, blockQ]
  refine sw_seq ?_
  refine sw_reg ?_
  unfold s33_4
  refine q5 ?_
  refine q0 ?_
  refine q8 ?_
  refine q0 ?_
  refine os_ev (evq_mvt rfl) ?_
  simp only [Vs.put, reduceIte, Nat.reduceEqDiff]
  refine os_callo ?_
  refine q6 ?_
  refine ⟨_, _, runs88 cache (n + szL szB secs) (by omega), _, rfl, _, rfl, by simp [handIo, handBx], fa_cons (⟨rfl, .inl rfl, by simp [handIo, handBx], _, rfl, by simp [mkL_len], by first | rfl | (simp; done) | exact (List.take_of_length_le (by simp [mkL_len])).symm⟩) (fa_cons (rfl) (fa_nil)), _, rfl, _, rfl, ?_⟩
  refine q7 ?_
  refine q11 ?_
  refine os_ev (evq_mvt rfl) ?_
  simp only [runOs, thenQ, blockQ, Vs.put, reduceIte, Nat.reduceEqDiff]
  refine sw_seq ?_
  refine sw_seq ?_
  refine sw_reg ?_
  unfold s33_5
  refine os_ev (evq_mvt rfl) ?_
  refine os_ev (evq_bin rfl rfl rfl) ?_
  simp only [runOs, thenQ, blockQ, Vs.put, reduceIte, Nat.reduceEqDiff]
  refine sw_cond rfl (fun h3 => ?_) (fun h3 => ?_)
  ·exact absurd h3 (by simp at h3; omega)
  ·replace h3 := q1 h3
   refine sw_skip ?_
   simp only [thenQ, blockQ]
   refine sw_seq ?_
   refine sw_reg ?_
   unfold s33_7
   refine os_ev (evq_mvt rfl) ?_
   refine os_ev (evq_mvt rfl) ?_
   simp only [Vs.put, reduceIte, Nat.reduceEqDiff]
   simp only [runOs, thenQ, blockQ, Vs.put, reduceIte, Nat.reduceEqDiff]
   refine sw_ret ?_
   refine q3 ?_
   first | exact leaves_vals rfl rfl rfl rfl | exact leaves_a rfl rfl rfl rfl
end Go.Proofs.Ytgbapgjdkoojdaa
