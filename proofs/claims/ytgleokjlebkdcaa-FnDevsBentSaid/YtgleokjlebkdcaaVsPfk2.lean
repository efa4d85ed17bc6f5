import Derived.Test.YtgleokjlebkdcaaProg
import Derived.Test.YtgleokjlebkdcaaVsPfk1
set_option linter.all false
namespace Go.Vs
open Go.Proofs
set_option maxRecDepth 100000
set_option linter.unusedVariables false
noncomputable def a_s_DrawWriteSec : An := (.sq none .d (.sq none .d (.sq none .d (.sq (some [.kt 2, .kt 5, .ot 6 .Y, .bx 8 [.K, .L (.I .i64), .L (.I .i64)]]) .d .d))))
theorem h_s_DrawWriteSec (x : List UInt8) : fnX (P := Try.prog) [.cur e_s_l1New, .gen e_s_l1Below, .gen e_s_l1Bytes, .gen e_s_l1Once, .gen e_s_l10Any, .gen e_s_l1Int] [(18, .el
 .Y), (22, .el (.I .i64))] (sOf Try.prog Try.f31) a_s_DrawWriteSec (iOf Try.prog Try.f31) [(false, .L .Y)] [(true, .P (.L (.L .Y)) (.P (.L (.P (.I .i64) (.L .Y))) (.P (.I .i64)
 .B))), (false, .I .i64), (false, .L .Y)] x = F_s_DrawWriteSec x := by kernel_rfl
noncomputable def e_s_DrawWriteSec : SEnt Try.prog := ⟨31, [(false, .L .Y)], [(true, .P (.L (.L .Y)) (.P (.L (.P (.I .i64) (.L .Y))) (.P (.I .i64) .B))), (false, .I .i64), (false,
 .L .Y)], F_s_DrawWriteSec, runs_see mixed_Pf Try.func31 (by kernel_rfl) h_s_DrawWriteSec⟩
noncomputable def a_s_DrawFlushDev : An := .d
theorem h_s_DrawFlushDev (x : List UInt8) : fnX (P := Try.prog) [.cur e_s_l1New, .gen e_s_l10Any] [] (sOf Try.prog Try.f32) a_s_DrawFlushDev (iOf Try.prog Try.f32) [(false, .L .Y)]
 [(true, .P (.L (.L .Y)) (.P (.L (.P (.I .i64) (.L .Y))) (.P (.I .i64) .B)))] x = F_s_DrawFlushDev x := by kernel_rfl
noncomputable def e_s_DrawFlushDev : SEnt Try.prog := ⟨32, [(false, .L .Y)], [(true, .P (.L (.L .Y)) (.P (.L (.P (.I .i64) (.L .Y))) (.P (.I .i64) .B)))], F_s_DrawFlushDev,
 runs_see mixed_Pf Try.func32 (by kernel_rfl) h_s_DrawFlushDev⟩
noncomputable def a_s_DrawFallDev : An := .d
theorem h_s_DrawFallDev (x : List UInt8) : fnX (P := Try.prog) [.cur e_s_l1New, .gen e_s_l10Any, .gen e_s_l1Int] [(10, .el (.I .i64))] (sOf Try.prog Try.f33) a_s_DrawFallDev (iOf
 Try.prog Try.f33) [(false, .L .Y)] [(true, .P (.L (.L .Y)) (.P (.L (.P (.I .i64) (.L .Y))) (.P (.I .i64) .B))), (false, .I .i64)] x = F_s_DrawFallDev x := by kernel_rfl
noncomputable def e_s_DrawFallDev : SEnt Try.prog := ⟨33, [(false, .L .Y)], [(true, .P (.L (.L .Y)) (.P (.L (.P (.I .i64) (.L .Y))) (.P (.I .i64) .B))), (false, .I .i64)],
 F_s_DrawFallDev, runs_see mixed_Pf Try.func33 (by kernel_rfl) h_s_DrawFallDev⟩
noncomputable def a_s_DrawDevNew : An := .d
theorem h_s_DrawDevNew (x : List UInt8) : fnX (P := Try.prog) [.cur e_s_l1New, .gen e_s_l1Int] [(7, .el (.I .i64))] (sOf Try.prog Try.f34) a_s_DrawDevNew (iOf Try.prog Try.f34)
 [(false, .L .Y)] [(false, .I .i64)] x = F_s_DrawDevNew x := by kernel_rfl
noncomputable def e_s_DrawDevNew : SEnt Try.prog := ⟨34, [(false, .L .Y)], [(false, .I .i64)], F_s_DrawDevNew, runs_see mixed_Pf Try.func34 (by kernel_rfl) h_s_DrawDevNew⟩
noncomputable def a_s_DevOk : An := (.sq none .d (.sq (some [.kt 1]) (.sq none .d (.bl (.lp [.kt 1, .lt 3 (.I .i64)] .d))) (.sq (some [.kt 1]) (.sq none .d (.bl (.lp [.kt 1, .lt 4
 (.I .i64)] .d))) .d)))
theorem h_s_DevOk (x : (List (List UInt8)) × (List (Int × List UInt8)) × Int × Bool) : fnX (P := Try.prog) [.see e_s_l1In] [] (sOf Try.prog Try.f35) a_s_DevOk (iOf Try.prog
 Try.f35) [(true, .P (.L (.L .Y)) (.P (.L (.P (.I .i64) (.L .Y))) (.P (.I .i64) .B)))] [(false, .B)] x = F_s_DevOk x := by kernel_rfl
noncomputable def e_s_DevOk : SEnt Try.prog := ⟨35, [(true, .P (.L (.L .Y)) (.P (.L (.P (.I .i64) (.L .Y))) (.P (.I .i64) .B)))], [(false, .B)], F_s_DevOk, runs_see mixed_Pf
 Try.func35 (by kernel_rfl) h_s_DevOk⟩
def s36_0 : List GI := [⟨(some 2), .wr (.box (.t 0)), none⟩,
 ⟨(some 4), .rd (.mv (.k (.a (.c (.nl 1))))), none⟩]
def s36_1 : List GI := [⟨(some 7), .rd (.load (some 4) (.t 2)), none⟩,
 ⟨(some 8), .wr (.call 35 [(.t 7)]), none⟩,
 ⟨(some 9), .rd (.un .not (.t 8)), none⟩,
 ⟨(some 10), .rd (.mv (.t 9)), none⟩,
 ⟨(some 11), .rd (.mv (.t 1)), (some (10, false))⟩,
 ⟨(some 12), .rd (.fad 0 (.t 2)), (some (10, false))⟩,
 ⟨(some 13), .rd (.load none (.t 12)), (some (10, false))⟩,
 ⟨(some 14), .rd (.len (.t 13)), (some (10, false))⟩,
 ⟨(some 15), .rd (.bin .sub (.t 14) (.k (.a (.c (.lf (.int .i64 1)))))), (some (10, false))⟩,
 ⟨(some 16), .wr (.call 56 [(.t 11), (.k (.a (.c (.lf (.int .i64 0))))), (.t 15)]), (some (10, false))⟩,
 ⟨(some 17), .rd (.un .not (.t 16)), (some (10, false))⟩,
 ⟨(some 18), .rd (.pick (.t 10) (.k (.a (.c (.lf (.bool true))))) (.t 17)), none⟩]
def s36_2 : List GI := [⟨(some 19), .wr (.lit 1 0 [.lf (.int .u8 0)] []), none⟩,
 ⟨(some 4), .rd (.mv (.t 19)), none⟩]
def s36_3 : List GI := [⟨(some 20), .rd (.fad 0 (.t 2)), none⟩,
 ⟨(some 21), .rd (.load none (.t 20)), none⟩,
 ⟨(some 22), .rd (.mv (.t 1)), none⟩,
 ⟨(some 23), .rd (.iad 1 (.t 21) (.t 22)), none⟩,
 ⟨(some 24), .rd (.load none (.t 23)), none⟩,
 ⟨(some 5), .rd (.mv (.t 24)), none⟩]
def s36_4 : List GI := [⟨(some 6), .rd (.mv (.k (.a (.c (.lf (.int .i64 0)))))), none⟩]
def s36_5 : List GI := [⟨(some 25), .rd (.mv (.t 6)), none⟩,
 ⟨(some 26), .rd (.fad 1 (.t 2)), none⟩,
 ⟨(some 27), .rd (.load none (.t 26)), none⟩,
 ⟨(some 28), .rd (.len (.t 27)), none⟩,
 ⟨(some 29), .rd (.bin .lss (.t 25) (.t 28)), none⟩]
def s36_7 : List GI := [⟨(some 32), .rd (.fad 1 (.t 2)), none⟩,
 ⟨(some 33), .rd (.load none (.t 32)), none⟩,
 ⟨(some 34), .rd (.mv (.t 6)), none⟩,
 ⟨(some 35), .rd (.iad 2 (.t 33) (.t 34)), none⟩,
 ⟨(some 36), .rd (.fad 0 (.t 35)), none⟩,
 ⟨(some 37), .rd (.load none (.t 36)), none⟩,
 ⟨(some 38), .rd (.mv (.t 1)), none⟩,
 ⟨(some 39), .rd (.bin .eql (.t 37) (.t 38)), none⟩]
def s36_8 : List GI := [⟨(some 40), .rd (.fad 1 (.t 2)), none⟩,
 ⟨(some 41), .rd (.load none (.t 40)), none⟩,
 ⟨(some 42), .rd (.mv (.t 6)), none⟩,
 ⟨(some 43), .rd (.iad 2 (.t 41) (.t 42)), none⟩,
 ⟨(some 44), .rd (.fad 1 (.t 43)), none⟩,
 ⟨(some 45), .rd (.load none (.t 44)), none⟩,
 ⟨(some 5), .rd (.mv (.t 45)), none⟩]
def s36_6 : List GI := [⟨(some 30), .rd (.mv (.t 6)), none⟩,
 ⟨(some 31), .rd (.bin .add (.t 30) (.k (.a (.c (.lf (.int .i64 1)))))), none⟩,
 ⟨(some 6), .rd (.mv (.t 31)), none⟩]
def s36_9 : List GI := [⟨(some 46), .wr (.lit 1 0 [.lf (.int .u8 0)] []), none⟩,
 ⟨(some 47), .rd (.mv (.t 5)), none⟩,
 ⟨(some 48), .wr (.app 1 1 [.lf (.int .u8 0)] (.t 46) (.t 47)), none⟩,
 ⟨(some 4), .rd (.mv (.t 48)), none⟩]
def s36 : Stm := (.seq (.reg s36_0) (.seq (.seq (.reg s36_1) (.cond (.t 18) (.seq (.reg s36_2) .ret) .skip)) (.seq (.reg s36_3) (.seq (.seq (.reg s36_4) (.block 0 (.loop (.seq (.seq (.reg s36_5) (.cond (.t 29) .skip (.exit 0))) (.seq (.block 1 (.seq (.reg s36_7) (.cond (.t 39) (.reg s36_8) .skip))) (.reg s36_6)))))) (.seq (.reg s36_9) .ret)))))
theorem tr36 : (Try.f36.body.bind (trC Try.prog Try.f36.ntmps)) = some s36 := by kernel_rfl
section
set_option maxHeartbeats 1000000
set_option maxRecDepth 4000
set_option linter.unusedSimpArgs false
theorem r_in_36 (x lo hi : Int) : Runs Try.prog 56 [.val false [(.rd, .lf (.int .i64 x))], .val false [(.rd, .lf (.int .i64 lo))], .val false [(.rd, .lf (.int .i64 hi))]] ⟨[(false, [.lf (.bool (decide (lo ≤ x) && decide (x ≤ hi)))])], [], []⟩ :=
 e_s_l1In.ok (x, (lo, hi)) (decide (lo ≤ x) && decide (x ≤ hi)) (by
  show F_s_l1In (x, (lo, hi)) = _
  unfold F_s_l1In iGe iLe
  simp only
  by_cases h : lo ≤ x <;> simp [h, cnd] <;> rfl)
theorem runs36 (secs : List (List UInt8)) (cache : List Wr) (fuse : Int) (down : Bool) (n : Int) (hl : secs.length < 2 ^ 62) (hm : cache.length < 2 ^ 62) (hs : ∀ b ∈ secs, b.length < 2 ^ 45) (hc : ∀ w ∈ cache, w.2.length < 2 ^ 45) (r39 : Runs Try.prog 35 [.val true [(.rd, .sl 1 (sD secs)), (.rd, .sl 2 (wD cache)), (.rd, .lf (.int .i64 fuse)), (.rd, .lf (.bool down))]] ⟨[(false, [.lf (.bool (devOk secs cache fuse))])], [], []⟩) : Runs Try.prog 36 [.val true [(.rd, .sl 1 (sD secs)), (.rd, .sl 2 (wD cache)), (.rd, .lf (.int .i64 fuse)), (.rd, .lf (.bool down))], .val false [(.rd, .lf (.int .i64 n))]] ⟨[(false, [.sl 1 (bD (rdSec secs cache fuse n))])], [], []⟩ := by
 obtain ⟨c, hb, hs⟩ := body_of tr36
 refine runs_of_sw Try.func36 hb hs rfl (show 2 ≤ 49 by decide) ?_
 clear hb hs c
 simp only [inAs, inCells, flat, List.flatMap_cons, List.flatMap_nil, Arg.cells, List.cons_append, List.nil_append, inCs, inC, fixN, fixCs, fixC, nBox, inV, inB, rootB, List.length_cons, List.length_nil, List.take_succ_cons, List.take_zero, List.drop_succ_cons, List.drop_zero, env0, Nat.zero_add, Nat.add_zero, List.append_nil, Nat.reduceAdd, sD_len, wD_len]
 unfold s36
 have e0 : IntKind.i64.wrap ((secs.length : Int) - 1) = (secs.length : Int) - 1 := wrap64 (by omega) (by omega)
 refine sw_seq ?_
 refine sw_reg ?_
 unfold s36_0
 refine os_wro (by intros; nofun) ?_
 refine ⟨_, rfl, ?_⟩
 try simp only [setEnv, Vs.put, killEnv, del, cutR, reduceIte, Nat.reduceEqDiff, Nat.reduceAdd]
 refine os_ev (evq_mvk) ?_
 simp only [runOs, thenQ, blockQ, Vs.put, reduceIte, Nat.reduceEqDiff]
 refine sw_seq ?_
 refine sw_seq ?_
 refine sw_reg ?_
 unfold s36_1
 first | refine os_ev (evq_lgb rfl rfl (Nat.le_of_ble_eq_true rfl) rfl) ?_ | refine os_ev (evq_lge rfl rfl (rfl) (Nat.le_of_ble_eq_true rfl) rfl) ?_
 try simp only [List.take_zero, List.take_succ_cons, List.drop_zero, List.drop_succ_cons, List.nil_append, List.cons_append, List.append_nil, List.length_cons, List.length_nil, Nat.zero_add, Nat.add_zero, Nat.reduceAdd, Nat.reduceMul, toC, toCs, bD_len, sD_len, rep, List.getElem?_cons_zero, List.getElem?_cons_succ]
 refine os_callo ?_
 simp only [List.map_cons, List.map_nil, St.opd, Vs.get, Vs.put, reduceIte, Nat.reduceEqDiff, Option.getD_some]
 refine ⟨_, _, r39, _, rfl, _, rfl, by simp [handIo, handBx], fa_cons (⟨rfl, .inl rfl, by simp [handIo, handBx], _, rfl, by simp, by first | rfl | (simp; done) | exact (List.take_of_length_le (by simp)).symm⟩) (fa_cons (⟨rfl, .inl rfl, by simp [handIo, handBx], _, rfl, by simp, by first | rfl | (simp; done) | exact (List.take_of_length_le (by simp)).symm⟩) (fa_cons (rfl) (fa_cons (rfl) (fa_nil)))), _, rfl, _, rfl, ?_⟩
 simp only [newCs, newRes, newA, resV, List.flatMap_cons, List.flatMap_nil, List.flatten_nil, List.flatten_cons, List.append_nil, List.nil_append, List.cons_append, List.length_cons, List.length_nil, List.drop_succ_cons, List.drop_zero, List.take_succ_cons, List.take_zero, if_true, if_false, Bool.false_eq_true, List.drop_nil, mixCs, isRx, Vs.put, reduceIte, Nat.reduceEqDiff, Nat.zero_add, Nat.reduceAdd, bD_len, sD_len]
 try simp only [setEnv, Vs.put, killEnv, del, cutR, reduceIte, Nat.reduceEqDiff, Nat.reduceAdd]
 refine os_ev (evq_un rfl rfl) ?_
 refine os_ev (evq_mvt rfl) ?_
 refine os_gs rfl (fun g10 => ?_) (fun g10 => ?_)
 ·try simp only [g10]
  try simp only [decide_eq_true_eq, decide_eq_false_iff_not, bne_iff_ne, beq_iff_eq, bne_eq_false_iff_eq, beq_eq_false_iff_ne, ne_eq, Int.not_lt, Int.not_le, gt_iff_lt, ge_iff_le, Bool.not_eq_true, Bool.not_eq_false, Bool.not_eq_true', Bool.not_eq_false', Bool.and_eq_true, Bool.or_eq_true, Bool.and_eq_false_iff, Bool.or_eq_false_iff] at g10
  refine os_gno rfl (by decide) ?_
  refine os_gno rfl (by decide) ?_
  refine os_gno rfl (by decide) ?_
  refine os_gno rfl (by decide) ?_
  simp only [Vs.put, reduceIte, Nat.reduceEqDiff]
  refine os_gno rfl (by decide) ?_
  refine os_gno rfl (by decide) ?_
  refine os_gno rfl (by decide) ?_
  refine os_ev (evq_pickt rfl rfl) ?_
  simp only [runOs, thenQ, blockQ, Vs.put, reduceIte, Nat.reduceEqDiff]
  refine sw_cond rfl (fun h1 => ?_) (fun h1 => ?_)
  ·try simp only [decide_eq_true_eq, decide_eq_false_iff_not, bne_iff_ne, beq_iff_eq, bne_eq_false_iff_eq, beq_eq_false_iff_ne, ne_eq, Int.not_lt, Int.not_le, gt_iff_lt, ge_iff_le, Bool.not_eq_true, Bool.not_eq_false, Bool.not_eq_true', Bool.not_eq_false', Bool.and_eq_true, Bool.or_eq_true, Bool.and_eq_false_iff, Bool.or_eq_false_iff] at h1
   refine sw_seq ?_
   refine sw_reg ?_
   unfold s36_2
   refine os_wro (by intros; nofun) ?_
   refine .inl ⟨_, rfl, _, rfl, ?_⟩
   simp only [chunk, List.take_zero, List.take_succ_cons, List.drop_zero, List.drop_succ_cons, List.nil_append, List.cons_append, List.append_nil, List.length_cons, List.length_nil, Nat.zero_add, Nat.add_zero, Nat.reduceAdd, Nat.reduceMul, toC, toCs, bD_len, sD_len, rep, List.getElem?_cons_zero, List.getElem?_cons_succ]
   try simp only [setEnv, Vs.put, killEnv, del, cutR, reduceIte, Nat.reduceEqDiff, Nat.reduceAdd]
   refine os_ev (evq_mvt rfl) ?_
   simp only [runOs, thenQ, blockQ, Vs.put, reduceIte, Nat.reduceEqDiff]
   refine sw_ret ?_
   simp only [thenQ, blockQ, resK, ev, St.opd, Vs.get, reduceIte, Nat.reduceEqDiff, Option.getD_some]
   rw [rdSec_no fun hh => by simp_all]
   first | exact leaves_vals rfl rfl rfl (take_one rfl (by simp)) | exact leaves_a rfl rfl rfl (take_one rfl (by simp))
  ·exact absurd h1 (by simp at h1)
 ·try simp only [g10]
  try simp only [decide_eq_true_eq, decide_eq_false_iff_not, bne_iff_ne, beq_iff_eq, bne_eq_false_iff_eq, beq_eq_false_iff_ne, ne_eq, Int.not_lt, Int.not_le, gt_iff_lt, ge_iff_le, Bool.not_eq_true, Bool.not_eq_false, Bool.not_eq_true', Bool.not_eq_false', Bool.and_eq_true, Bool.or_eq_true, Bool.and_eq_false_iff, Bool.or_eq_false_iff] at g10
  refine os_gdo rfl ?_
  refine os_ev (evq_mvt rfl) ?_
  refine os_gdo rfl ?_
  first | refine os_ev (evq_fadb rfl) ?_ | refine os_ev (evq_fade rfl) ?_
  try simp only [List.take_zero, List.take_succ_cons, List.drop_zero, List.drop_succ_cons, List.nil_append, List.cons_append, List.append_nil, List.length_cons, List.length_nil, Nat.zero_add, Nat.add_zero, Nat.reduceAdd, Nat.reduceMul, toC, toCs, bD_len, sD_len, rep, List.getElem?_cons_zero, List.getElem?_cons_succ]
  simp only [Vs.put, reduceIte, Nat.reduceEqDiff]
  refine os_gdo rfl ?_
  first | refine os_ev (evq_ldb rfl rfl rfl) ?_ | refine os_ev (evq_ldl rfl rfl (rfl) rfl) ?_ | refine os_ev (evq_lds rfl rfl (rfl) rfl) ?_
  try simp only [List.take_zero, List.take_succ_cons, List.drop_zero, List.drop_succ_cons, List.nil_append, List.cons_append, List.append_nil, List.length_cons, List.length_nil, Nat.zero_add, Nat.add_zero, Nat.reduceAdd, Nat.reduceMul, toC, toCs, bD_len, sD_len, rep, List.getElem?_cons_zero, List.getElem?_cons_succ]
  refine os_gdo rfl ?_
  first | refine os_ev (evq_lenr rfl) ?_ | refine os_ev (evq_lenn rfl) ?_
  refine os_gdo rfl ?_
  refine os_ev (evq_bin rfl rfl rfl) ?_
  refine os_gdo rfl ?_
  refine os_callo ?_
  simp only [List.map_cons, List.map_nil, St.opd, Vs.get, Vs.put, reduceIte, Nat.reduceEqDiff, Option.getD_some]
  simp only [e0]
  refine ⟨_, _, r_in_36 n 0 ((secs.length : Int) - 1), _, rfl, _, rfl, by simp [handIo, handBx], fa_cons (rfl) (fa_cons (rfl) (fa_cons (rfl) (fa_nil))), _, rfl, _, rfl, ?_⟩
  simp only [newCs, newRes, newA, resV, List.flatMap_cons, List.flatMap_nil, List.flatten_nil, List.flatten_cons, List.append_nil, List.nil_append, List.cons_append, List.length_cons, List.length_nil, List.drop_succ_cons, List.drop_zero, List.take_succ_cons, List.take_zero, if_true, if_false, Bool.false_eq_true, List.drop_nil, mixCs, isRx, Vs.put, reduceIte, Nat.reduceEqDiff, Nat.zero_add, Nat.reduceAdd, bD_len, sD_len]
  try simp only [setEnv, Vs.put, killEnv, del, cutR, reduceIte, Nat.reduceEqDiff, Nat.reduceAdd]
  refine os_gdo rfl ?_
  refine os_ev (evq_un rfl rfl) ?_
  refine os_ev (evq_pickf rfl rfl) ?_
  simp only [Vs.put, reduceIte, Nat.reduceEqDiff]
  simp only [runOs, thenQ, blockQ, Vs.put, reduceIte, Nat.reduceEqDiff]
  refine sw_cond rfl (fun h1 => ?_) (fun h1 => ?_)
  ·try simp only [decide_eq_true_eq, decide_eq_false_iff_not, bne_iff_ne, beq_iff_eq, bne_eq_false_iff_eq, beq_eq_false_iff_ne, ne_eq, Int.not_lt, Int.not_le, gt_iff_lt, ge_iff_le, Bool.not_eq_true, Bool.not_eq_false, Bool.not_eq_true', Bool.not_eq_false', Bool.and_eq_true, Bool.or_eq_true, Bool.and_eq_false_iff, Bool.or_eq_false_iff] at h1
   refine sw_seq ?_
   refine sw_reg ?_
   unfold s36_2
   refine os_wro (by intros; nofun) ?_
   refine .inl ⟨_, rfl, _, rfl, ?_⟩
   simp only [chunk, List.take_zero, List.take_succ_cons, List.drop_zero, List.drop_succ_cons, List.nil_append, List.cons_append, List.append_nil, List.length_cons, List.length_nil, Nat.zero_add, Nat.add_zero, Nat.reduceAdd, Nat.reduceMul, toC, toCs, bD_len, sD_len, rep, List.getElem?_cons_zero, List.getElem?_cons_succ]
   try simp only [setEnv, Vs.put, killEnv, del, cutR, reduceIte, Nat.reduceEqDiff, Nat.reduceAdd]
   refine os_ev (evq_mvt rfl) ?_
   simp only [runOs, thenQ, blockQ, Vs.put, reduceIte, Nat.reduceEqDiff]
   refine sw_ret ?_
   simp only [thenQ, blockQ, resK, ev, St.opd, Vs.get, reduceIte, Nat.reduceEqDiff, Option.getD_some]
   rw [rdSec_no fun hh => by omega]
   first | exact leaves_vals rfl rfl rfl (take_one rfl (by simp)) | exact leaves_a rfl rfl rfl (take_one rfl (by simp))
  ·try simp only [decide_eq_true_eq, decide_eq_false_iff_not, bne_iff_ne, beq_iff_eq, bne_eq_false_iff_eq, beq_eq_false_iff_ne, ne_eq, Int.not_lt, Int.not_le, gt_iff_lt, ge_iff_le, Bool.not_eq_true, Bool.not_eq_false, Bool.not_eq_true', Bool.not_eq_false', Bool.and_eq_true, Bool.or_eq_true, Bool.and_eq_false_iff, Bool.or_eq_false_iff] at h1
   obtain ⟨k, rfl⟩ : ∃ k0 : Nat, n = k0 := ⟨n.toNat, by omega⟩
   have hk : k < secs.length := by omega
   rw [rdSec_yes g10 hk]
   refine sw_skip ?_
   simp only [thenQ, blockQ]
   refine sw_seq ?_
   refine sw_reg ?_
   unfold s36_3
   first | refine os_ev (evq_fadb rfl) ?_ | refine os_ev (evq_fade rfl) ?_
   try simp only [List.take_zero, List.take_succ_cons, List.drop_zero, List.drop_succ_cons, List.nil_append, List.cons_append, List.append_nil, List.length_cons, List.length_nil, Nat.zero_add, Nat.add_zero, Nat.reduceAdd, Nat.reduceMul, toC, toCs, bD_len, sD_len, rep, List.getElem?_cons_zero, List.getElem?_cons_succ]
   first | refine os_ev (evq_ldb rfl rfl rfl) ?_ | refine os_ev (evq_ldl rfl rfl (rfl) rfl) ?_ | refine os_ev (evq_lds rfl rfl (rfl) rfl) ?_
   try simp only [List.take_zero, List.take_succ_cons, List.drop_zero, List.drop_succ_cons, List.nil_append, List.cons_append, List.append_nil, List.length_cons, List.length_nil, Nat.zero_add, Nat.add_zero, Nat.reduceAdd, Nat.reduceMul, toC, toCs, bD_len, sD_len, rep, List.getElem?_cons_zero, List.getElem?_cons_succ]
   refine os_ev (evq_mvt rfl) ?_
   first | refine os_ev (evq_iad rfl rfl rfl (by omega)) ?_ | refine os_ev (evq_iad rfl rfl rfl (by simp)) ?_
   simp only [Vs.put, reduceIte, Nat.reduceEqDiff]
   first | refine os_ev (evq_ldb rfl rfl rfl) ?_ | refine os_ev (evq_ldl rfl rfl (sD_get hk) rfl) ?_ | refine os_ev (evq_lds rfl rfl (sD_get hk) rfl) ?_ | refine os_ev (evq_ldl rfl rfl (rfl) rfl) ?_ | refine os_ev (evq_lds rfl rfl (rfl) rfl) ?_
   try simp only [List.take_zero, List.take_succ_cons, List.drop_zero, List.drop_succ_cons, List.nil_append, List.cons_append, List.append_nil, List.length_cons, List.length_nil, Nat.zero_add, Nat.add_zero, Nat.reduceAdd, Nat.reduceMul, toC, toCs, bD_len, sD_len, rep, List.getElem?_cons_zero, List.getElem?_cons_succ]
   refine os_ev (evq_mvt rfl) ?_
   simp only [runOs, thenQ, blockQ, Vs.put, reduceIte, Nat.reduceEqDiff]
   refine sw_seq ?_
   refine sw_seq ?_
   refine sw_reg ?_
   unfold s36_4
   refine os_ev (evq_mvk) ?_
   simp only [runOs, thenQ, blockQ, Vs.put, reduceIte, Nat.reduceEqDiff]
   refine sw_block ?_
   refine sw_loop_upd [1, 2, 5, 6] (α := Nat × C × List UInt8) (fun (i, c, b) => [(5, .a (.c c)), (6, .a (.c (.lf (.int .i64 (i : Nat)))))]) (fun (i, c, b) => [(2, .bx [.rf 0 [] 1 0 secs.length, .rf 1 [] 2 0 cache.length, .lf (.int .i64 fuse), .lf (.bool down)]), (0, .im 1 (sD secs)), (1, .im 2 (wD cache))]) (3) (fun (i, c, b) => i ≤ cache.length ∧ rdL (cache.take i) k secs[k] = b ∧ ((c = .rf 0 [(k, 0)] 1 0 b.length ∧ b = secs[k]) ∨ ∃ j, ∃ hj : j < cache.length, c = .rf 1 [(j, 1)] 1 0 b.length ∧ b = cache[j].2)) (fun (i, c, b) => cache.length - i) (0, .rf 0 [(k, 0)] 1 0 secs[k].length, secs[k]) [(2, 2), (0, 0), (1, 1)] ?_ (by decide) ?_ ?_ ?_
   ·exact ⟨Nat.zero_le _, rfl, .inl ⟨rfl, rfl⟩⟩
   ·simp only [sel, Vs.get, upd, Vs.put, reduceIte, Nat.reduceEqDiff]
    repeat' (first | exact er_nil | refine er_un ?_ | refine er_cons rfl ?_ ?_)
    all_goals (try simp only [V.map, A.map, renC, Vs.get, reduceIte, Nat.reduceEqDiff, List.map_cons, List.map_nil])
    all_goals (try rfl)
   ·repeat' (first | exact rr_nil | refine rr_cons 2 rfl rfl ?_ ?_ | refine rr_cons 0 rfl rfl ?_ ?_ | refine rr_cons 1 rfl rfl ?_ ?_)
    all_goals (try simp only [renRoot, renC, Vs.get, reduceIte, Nat.reduceEqDiff, List.map_cons, List.map_nil])
    all_goals (try rfl)
   ·rintro ⟨i, c, b⟩ hinv
    simp only [sel, Vs.get, upd, Vs.put, reduceIte, Nat.reduceEqDiff]
    obtain ⟨hi, hat, hcc⟩ := hinv
    have hren : renC [(2, 2), (0, 0), (1, 1)] c = c := by
     rcases hcc with ⟨rfl, _⟩ | ⟨j, hj, rfl, _⟩ <;> rfl
    refine sw_seq ?_
    refine sw_seq ?_
    refine sw_reg ?_
    unfold s36_5
    refine os_ev (evq_mvt rfl) ?_
    first | refine os_ev (evq_fadb rfl) ?_ | refine os_ev (evq_fade rfl) ?_
    try simp only [List.take_zero, List.take_succ_cons, List.drop_zero, List.drop_succ_cons, List.nil_append, List.cons_append, List.append_nil, List.length_cons, List.length_nil, Nat.zero_add, Nat.add_zero, Nat.reduceAdd, Nat.reduceMul, toC, toCs, bD_len, sD_len, rep, List.getElem?_cons_zero, List.getElem?_cons_succ]
    simp only [Vs.put, reduceIte, Nat.reduceEqDiff]
    first | refine os_ev (evq_ldb rfl rfl rfl) ?_ | refine os_ev (evq_ldl rfl rfl (rfl) rfl) ?_ | refine os_ev (evq_lds rfl rfl (rfl) rfl) ?_
    try simp only [List.take_zero, List.take_succ_cons, List.drop_zero, List.drop_succ_cons, List.nil_append, List.cons_append, List.append_nil, List.length_cons, List.length_nil, Nat.zero_add, Nat.add_zero, Nat.reduceAdd, Nat.reduceMul, toC, toCs, bD_len, sD_len, rep, List.getElem?_cons_zero, List.getElem?_cons_succ]
    first | refine os_ev (evq_lenr rfl) ?_ | refine os_ev (evq_lenn rfl) ?_
    refine os_ev (evq_bin rfl rfl rfl) ?_
    simp only [runOs, thenQ, blockQ, Vs.put, reduceIte, Nat.reduceEqDiff]
    refine sw_cond rfl (fun h4 => ?_) (fun h4 => ?_)
    ·try simp only [decide_eq_true_eq, decide_eq_false_iff_not, bne_iff_ne, beq_iff_eq, bne_eq_false_iff_eq, beq_eq_false_iff_ne, ne_eq, Int.not_lt, Int.not_le, gt_iff_lt, ge_iff_le, Bool.not_eq_true, Bool.not_eq_false, Bool.not_eq_true', Bool.not_eq_false', Bool.and_eq_true, Bool.or_eq_true, Bool.and_eq_false_iff, Bool.or_eq_false_iff] at h4
     have hib : i < cache.length := by omega
     have e1 : IntKind.i64.wrap ((i : Int) + 1) = ((i + 1 : Nat) : Int) := by rw [wrap64 (by omega) (by omega)]; rfl
     refine sw_skip ?_
     simp only [thenQ, blockQ]
     refine sw_seq ?_
     refine sw_block ?_
     refine sw_seq ?_
     refine sw_reg ?_
     unfold s36_7
     first | refine os_ev (evq_fadb rfl) ?_ | refine os_ev (evq_fade rfl) ?_
     try simp only [List.take_zero, List.take_succ_cons, List.drop_zero, List.drop_succ_cons, List.nil_append, List.cons_append, List.append_nil, List.length_cons, List.length_nil, Nat.zero_add, Nat.add_zero, Nat.reduceAdd, Nat.reduceMul, toC, toCs, bD_len, sD_len, rep, List.getElem?_cons_zero, List.getElem?_cons_succ]
     first | refine os_ev (evq_ldb rfl rfl rfl) ?_ | refine os_ev (evq_ldl rfl rfl (rfl) rfl) ?_ | refine os_ev (evq_lds rfl rfl (rfl) rfl) ?_
     try simp only [List.take_zero, List.take_succ_cons, List.drop_zero, List.drop_succ_cons, List.nil_append, List.cons_append, List.append_nil, List.length_cons, List.length_nil, Nat.zero_add, Nat.add_zero, Nat.reduceAdd, Nat.reduceMul, toC, toCs, bD_len, sD_len, rep, List.getElem?_cons_zero, List.getElem?_cons_succ]
     simp only [Vs.put, reduceIte, Nat.reduceEqDiff]
     refine os_ev (evq_mvt rfl) ?_
     first | refine os_ev (evq_iad rfl rfl rfl (by omega)) ?_ | refine os_ev (evq_iad rfl rfl rfl (by simp)) ?_
     first | refine os_ev (evq_fadb rfl) ?_ | refine os_ev (evq_fade rfl) ?_
     try simp only [List.take_zero, List.take_succ_cons, List.drop_zero, List.drop_succ_cons, List.nil_append, List.cons_append, List.append_nil, List.length_cons, List.length_nil, Nat.zero_add, Nat.add_zero, Nat.reduceAdd, Nat.reduceMul, toC, toCs, bD_len, sD_len, rep, List.getElem?_cons_zero, List.getElem?_cons_succ]
     first | refine os_ev (evq_ldb rfl rfl rfl) ?_ | refine os_ev (evq_ldl rfl rfl (wD_get hib) rfl) ?_ | refine os_ev (evq_lds rfl rfl (wD_get hib) rfl) ?_ | refine os_ev (evq_ldl rfl rfl (rfl) rfl) ?_ | refine os_ev (evq_lds rfl rfl (rfl) rfl) ?_
     try simp only [List.take_zero, List.take_succ_cons, List.drop_zero, List.drop_succ_cons, List.nil_append, List.cons_append, List.append_nil, List.length_cons, List.length_nil, Nat.zero_add, Nat.add_zero, Nat.reduceAdd, Nat.reduceMul, toC, toCs, bD_len, sD_len, rep, List.getElem?_cons_zero, List.getElem?_cons_succ]
     refine os_ev (evq_mvt rfl) ?_
     simp only [Vs.put, reduceIte, Nat.reduceEqDiff]
     refine os_ev (evq_bin rfl rfl rfl) ?_
     simp only [runOs, thenQ, blockQ, Vs.put, reduceIte, Nat.reduceEqDiff]
     refine sw_cond rfl (fun h5 => ?_) (fun h5 => ?_)
     ·try simp only [decide_eq_true_eq, decide_eq_false_iff_not, bne_iff_ne, beq_iff_eq, bne_eq_false_iff_eq, beq_eq_false_iff_ne, ne_eq, Int.not_lt, Int.not_le, gt_iff_lt, ge_iff_le, Bool.not_eq_true, Bool.not_eq_false, Bool.not_eq_true', Bool.not_eq_false', Bool.and_eq_true, Bool.or_eq_true, Bool.and_eq_false_iff, Bool.or_eq_false_iff] at h5
      refine sw_reg ?_
      unfold s36_8
      first | refine os_ev (evq_fadb rfl) ?_ | refine os_ev (evq_fade rfl) ?_
      try simp only [List.take_zero, List.take_succ_cons, List.drop_zero, List.drop_succ_cons, List.nil_append, List.cons_append, List.append_nil, List.length_cons, List.length_nil, Nat.zero_add, Nat.add_zero, Nat.reduceAdd, Nat.reduceMul, toC, toCs, bD_len, sD_len, rep, List.getElem?_cons_zero, List.getElem?_cons_succ]
      first | refine os_ev (evq_ldb rfl rfl rfl) ?_ | refine os_ev (evq_ldl rfl rfl (rfl) rfl) ?_ | refine os_ev (evq_lds rfl rfl (rfl) rfl) ?_
      try simp only [List.take_zero, List.take_succ_cons, List.drop_zero, List.drop_succ_cons, List.nil_append, List.cons_append, List.append_nil, List.length_cons, List.length_nil, Nat.zero_add, Nat.add_zero, Nat.reduceAdd, Nat.reduceMul, toC, toCs, bD_len, sD_len, rep, List.getElem?_cons_zero, List.getElem?_cons_succ]
      refine os_ev (evq_mvt rfl) ?_
      first | refine os_ev (evq_iad rfl rfl rfl (by omega)) ?_ | refine os_ev (evq_iad rfl rfl rfl (by simp)) ?_
      simp only [Vs.put, reduceIte, Nat.reduceEqDiff]
      first | refine os_ev (evq_fadb rfl) ?_ | refine os_ev (evq_fade rfl) ?_
      try simp only [List.take_zero, List.take_succ_cons, List.drop_zero, List.drop_succ_cons, List.nil_append, List.cons_append, List.append_nil, List.length_cons, List.length_nil, Nat.zero_add, Nat.add_zero, Nat.reduceAdd, Nat.reduceMul, toC, toCs, bD_len, sD_len, rep, List.getElem?_cons_zero, List.getElem?_cons_succ]
      first | refine os_ev (evq_ldb rfl rfl rfl) ?_ | refine os_ev (evq_ldl rfl rfl (wD_get hib) rfl) ?_ | refine os_ev (evq_lds rfl rfl (wD_get hib) rfl) ?_ | refine os_ev (evq_ldl rfl rfl (rfl) rfl) ?_ | refine os_ev (evq_lds rfl rfl (rfl) rfl) ?_
      try simp only [List.take_zero, List.take_succ_cons, List.drop_zero, List.drop_succ_cons, List.nil_append, List.cons_append, List.append_nil, List.length_cons, List.length_nil, Nat.zero_add, Nat.add_zero, Nat.reduceAdd, Nat.reduceMul, toC, toCs, bD_len, sD_len, rep, List.getElem?_cons_zero, List.getElem?_cons_succ]
      refine os_ev (evq_mvt rfl) ?_
      simp only [runOs, thenQ, blockQ, Vs.put, reduceIte, Nat.reduceEqDiff]
      refine sw_reg ?_
      unfold s36_6
      refine os_ev (evq_mvt rfl) ?_
      refine os_ev (evq_bin rfl rfl rfl) ?_
      simp only [Vs.put, reduceIte, Nat.reduceEqDiff]
      refine os_ev (evq_mvt rfl) ?_
      simp only [runOs, thenQ, blockQ, Vs.put, reduceIte, Nat.reduceEqDiff]
      try simp only [thenQ, blockQ]
      refine ⟨(i + 1, .rf 1 [(i, 1)] 1 0 cache[i].2.length, cache[i].2), ?_, ?_, rfl, [(2, 2), (0, 0), (1, 1)], by decide, ?_, ?_⟩
      ·exact ⟨by omega, rdL_hit hib h5, .inr ⟨i, hib, rfl, rfl⟩⟩
      ·first | omega | (dsimp only; omega)
      ·simp only [sel, Vs.get, upd, Vs.put, reduceIte, Nat.reduceEqDiff]
       repeat' (first | exact er_nil | refine er_un ?_ | refine er_cons rfl ?_ ?_)
       all_goals (try simp only [V.map, A.map, renC, Vs.get, reduceIte, Nat.reduceEqDiff, List.map_cons, List.map_nil, e1])
      ·repeat' (first | exact rr_nil | refine rr_cons 2 rfl rfl ?_ ?_ | refine rr_cons 0 rfl rfl ?_ ?_ | refine rr_cons 1 rfl rfl ?_ ?_)
       all_goals (try simp only [renRoot, renC, Vs.get, reduceIte, Nat.reduceEqDiff, List.map_cons, List.map_nil, e1])
     ·try simp only [decide_eq_true_eq, decide_eq_false_iff_not, bne_iff_ne, beq_iff_eq, bne_eq_false_iff_eq, beq_eq_false_iff_ne, ne_eq, Int.not_lt, Int.not_le, gt_iff_lt, ge_iff_le, Bool.not_eq_true, Bool.not_eq_false, Bool.not_eq_true', Bool.not_eq_false', Bool.and_eq_true, Bool.or_eq_true, Bool.and_eq_false_iff, Bool.or_eq_false_iff] at h5
      refine sw_skip ?_
      simp only [thenQ, blockQ]
      refine sw_reg ?_
      unfold s36_6
      refine os_ev (evq_mvt rfl) ?_
      refine os_ev (evq_bin rfl rfl rfl) ?_
      refine os_ev (evq_mvt rfl) ?_
      simp only [runOs, thenQ, blockQ, Vs.put, reduceIte, Nat.reduceEqDiff]
      try simp only [thenQ, blockQ]
      refine ⟨(i + 1, c, b), ?_, ?_, rfl, [(2, 2), (0, 0), (1, 1)], by decide, ?_, ?_⟩
      ·exact ⟨by omega, (rdL_miss hib h5).trans hat, hcc⟩
      ·first | omega | (dsimp only; omega)
      ·simp only [sel, Vs.get, upd, Vs.put, reduceIte, Nat.reduceEqDiff]
       repeat' (first | exact er_nil | refine er_un ?_ | refine er_cons rfl ?_ ?_)
       all_goals (try simp only [V.map, A.map, renC, Vs.get, reduceIte, Nat.reduceEqDiff, List.map_cons, List.map_nil, e1])
       exact congrArg (fun x => V.a (A.c x)) hren
      ·repeat' (first | exact rr_nil | refine rr_cons 2 rfl rfl ?_ ?_ | refine rr_cons 0 rfl rfl ?_ ?_ | refine rr_cons 1 rfl rfl ?_ ?_)
       all_goals (try simp only [renRoot, renC, Vs.get, reduceIte, Nat.reduceEqDiff, List.map_cons, List.map_nil, e1])
    ·try simp only [decide_eq_true_eq, decide_eq_false_iff_not, bne_iff_ne, beq_iff_eq, bne_eq_false_iff_eq, beq_eq_false_iff_ne, ne_eq, Int.not_lt, Int.not_le, gt_iff_lt, ge_iff_le, Bool.not_eq_true, Bool.not_eq_false, Bool.not_eq_true', Bool.not_eq_false', Bool.and_eq_true, Bool.or_eq_true, Bool.and_eq_false_iff, Bool.or_eq_false_iff] at h4
     have hib : i = cache.length := by omega
     subst hib
     rw [List.take_length] at hat
     rw [hat]
     have hbl : b.length < 2 ^ 45 := by
      rcases hcc with ⟨_, rfl⟩ | ⟨j, hj, _, rfl⟩
      ·exact hs _ (List.getElem_mem hk)
      ·exact hc _ (List.getElem_mem hj)
     refine sw_exit ?_
     simp only [thenQ, blockQ, if_true, Nat.reduceEqDiff, if_false, reduceIte]
     refine sw_seq ?_
     refine sw_reg ?_
     unfold s36_9
     refine os_wro (by intros; nofun) ?_
     refine .inl ⟨_, rfl, _, rfl, ?_⟩
     simp only [chunk, List.take_zero, List.take_succ_cons, List.drop_zero, List.drop_succ_cons, List.nil_append, List.cons_append, List.append_nil, List.length_cons, List.length_nil, Nat.zero_add, Nat.add_zero, Nat.reduceAdd, Nat.reduceMul, toC, toCs, bD_len, sD_len, rep, List.getElem?_cons_zero, List.getElem?_cons_succ]
     try simp only [setEnv, Vs.put, killEnv, del, cutR, reduceIte, Nat.reduceEqDiff, Nat.reduceAdd]
     refine os_ev (evq_mvt rfl) ?_
     simp only [Vs.put, reduceIte, Nat.reduceEqDiff]
     refine os_wro (by intros; nofun) ?_
     rcases hcc with ⟨rfl, hb0⟩ | ⟨j, hj, rfl, hb0⟩
     ·subst hb0
      refine app_bytes (l := []) (r2 := secs[k]) rfl rfl rfl rfl (by decide) (by simp only [St.node, Vs.get, reduceIte, Nat.reduceEqDiff, nodeAt, sD_get hk, Option.bind_some, List.getElem?_cons_zero]) (by simp) (by simp; omega) ?_
      simp only [setEnv, Vs.put, killEnv, reduceIte, Nat.reduceEqDiff, del, bD_len, List.drop_zero, List.take_length, List.nil_append, List.length_nil, Nat.reduceAdd, Nat.zero_add]
      refine os_ev (evq_mvt rfl) ?_
      simp only [runOs, thenQ, blockQ, Vs.put, reduceIte, Nat.reduceEqDiff]
      refine sw_ret ?_
      simp only [thenQ, blockQ, resK, ev, St.opd, Vs.get, reduceIte, Nat.reduceEqDiff, Option.getD_some]
      first | exact leaves_vals rfl rfl rfl (take_one rfl (by simp)) | exact leaves_a rfl rfl rfl (take_one rfl (by simp))
     ·subst hb0
      refine app_bytes (l := []) (r2 := cache[j].2) rfl rfl rfl rfl (by decide) (by simp only [St.node, Vs.get, reduceIte, Nat.reduceEqDiff, nodeAt, wD_get hj, Option.bind_some, List.getElem?_cons_zero, List.getElem?_cons_succ]) (by simp) (by simp; omega) ?_
      simp only [setEnv, Vs.put, killEnv, reduceIte, Nat.reduceEqDiff, del, bD_len, List.drop_zero, List.take_length, List.nil_append, List.length_nil, Nat.reduceAdd, Nat.zero_add]
      refine os_ev (evq_mvt rfl) ?_
      simp only [runOs, thenQ, blockQ, Vs.put, reduceIte, Nat.reduceEqDiff]
      refine sw_ret ?_
      simp only [thenQ, blockQ, resK, ev, St.opd, Vs.get, reduceIte, Nat.reduceEqDiff, Option.getD_some]
      first | exact leaves_vals rfl rfl rfl (take_one rfl (by simp)) | exact leaves_a rfl rfl rfl (take_one rfl (by simp))
end
noncomputable def e_s_ReadSec : SEnt Try.prog := ⟨36, [(true, .P (.L (.L .Y)) (.P (.L (.P (.I .i64) (.L .Y))) (.P (.I .i64) .B))), (false, .I .i64)], [(false, .L .Y)], F_s_ReadSec, fun x y hy => by
 unfold F_s_ReadSec at hy
 obtain ⟨_, e2, hy⟩ := bnd_some hy
 obtain ⟨h, hy⟩ := chk_some hy
 have h := of_decide_eq_true h
 have hy := Option.some.inj hy
 subst hy
 obtain ⟨e2, q2⟩ := alt2_some e2
 have q2 := Option.some.inj q2
 subst q2
 exact runs36 x.1.1 x.1.2.1 x.1.2.2.1 x.1.2.2.2 x.2 h.1 h.2.1 h.2.2.1 h.2.2.2 (e_s_DevOk.ok _ _ e2)⟩
noncomputable def a_s_l10Copy : An := (.sq none .d (.sq none .d (.sq (some [.kt 1, .kt 2, .bx 3 [.O (.L .Y), .K, .K, .K]]) (.sq none .d (.bl (.lp [.kt 1, .kt 2, .bx 3 [.O (.L .Y),
 .K, .K, .K], .lt 4 (.I .i64)] .d))) (.sq (some [.kt 2, .bx 3 [.K, .O (.P (.I .i64) (.L .Y)), .K, .K]]) (.sq none .d (.bl (.lp [.kt 1, .kt 2, .bx 3 [.K, .O (.P (.I .i64) (.L .Y)),
 .K, .K], .lt 5 (.I .i64)] .d))) .d))))
theorem h_s_l10Copy (x : (List (List UInt8)) × (List (Int × List UInt8)) × Int × Bool) : fnX (P := Try.prog) [] [(20, .el .Y), (26, .el .Y), (27, .el (.L .Y)), (28, .el (.L .Y)),
 (45, .el .Y), (52, .el .Y), (54, .el (.P (.I .i64) (.L .Y))), (55, .el (.P (.I .i64) (.L .Y)))] (sOf Try.prog Try.f75) a_s_l10Copy (iOf Try.prog Try.f75) [(true, .P (.L (.L .Y))
 (.P (.L (.P (.I .i64) (.L .Y))) (.P (.I .i64) .B)))] [(true, .P (.L (.L .Y)) (.P (.L (.P (.I .i64) (.L .Y))) (.P (.I .i64) .B)))] x = F_s_l10Copy x := by kernel_rfl
noncomputable def e_s_l10Copy : SEnt Try.prog := ⟨75, [(true, .P (.L (.L .Y)) (.P (.L (.P (.I .i64) (.L .Y))) (.P (.I .i64) .B)))], [(true, .P (.L (.L .Y)) (.P (.L (.P (.I .i64)
 (.L .Y))) (.P (.I .i64) .B)))], F_s_l10Copy, runs_see mixed_Pf Try.func75 (by kernel_rfl) h_s_l10Copy⟩
noncomputable def a_s_WriteSec : An := (.sq none .d (.sq none .d (.sq (some [.kt 6, .bx 7 [.K, .O (.P (.I .i64) (.L .Y)), .L (.I .i64), .L .B]]) .d .d)))
theorem h_s_WriteSec (x : ((List (List UInt8)) × (List (Int × List UInt8)) × Int × Bool) × Int × List UInt8) : fnX (P := Try.prog) [.see e_s_l10Copy, .see e_s_DevOk, .gen
 e_s_l10Write] [] (sOf Try.prog Try.f38) a_s_WriteSec (iOf Try.prog Try.f38) [(true, .P (.L (.L .Y)) (.P (.L (.P (.I .i64) (.L .Y))) (.P (.I .i64) .B))), (false, .I .i64), (false,
 .L .Y)] [(true, .P (.L (.L .Y)) (.P (.L (.P (.I .i64) (.L .Y))) (.P (.I .i64) .B)))] x = F_s_WriteSec x := by kernel_rfl
noncomputable def e_s_WriteSec : SEnt Try.prog := ⟨38, [(true, .P (.L (.L .Y)) (.P (.L (.P (.I .i64) (.L .Y))) (.P (.I .i64) .B))), (false, .I .i64), (false, .L .Y)], [(true, .P
 (.L (.L .Y)) (.P (.L (.P (.I .i64) (.L .Y))) (.P (.I .i64) .B)))], F_s_WriteSec, runs_see mixed_Pf Try.func38 (by kernel_rfl) h_s_WriteSec⟩
noncomputable def a_l_sameDev : An := (.sq none .d (.sq none .d (.sq (some [.kt 2, .kt 3]) (.sq none .d (.bl (.lp [.kt 2, .kt 3, .lt 5 (.I .i64)] .d))) (.sq none (.sq none .d (.bl
 (.lp [.kt 2, .kt 3, .lt 6 (.I .i64)] .d))) .d))))
theorem h_l_sameDev (x : ((List (List UInt8)) × (List (Int × List UInt8)) × Int × Bool) × (List (List UInt8)) × (List (Int × List UInt8)) × Int × Bool) : fnX (P := Try.prog) [] []
 (sOf Try.prog Try.f37) a_l_sameDev (iOf Try.prog Try.f37) [(true, .P (.L (.L .Y)) (.P (.L (.P (.I .i64) (.L .Y))) (.P (.I .i64) .B))), (true, .P (.L (.L .Y)) (.P (.L (.P (.I
 .i64) (.L .Y))) (.P (.I .i64) .B)))] [(false, .B)] x = F_l_sameDev x := by kernel_rfl
noncomputable def e_l_sameDev : SEnt Try.prog := ⟨37, [(true, .P (.L (.L .Y)) (.P (.L (.P (.I .i64) (.L .Y))) (.P (.I .i64) .B))), (true, .P (.L (.L .Y)) (.P (.L (.P (.I .i64) (.L
 .Y))) (.P (.I .i64) .B)))], [(false, .B)], F_l_sameDev, runs_see mixed_Pf Try.func37 (by kernel_rfl) h_l_sameDev⟩
noncomputable def a_s_FlushDev : An := (.sq none .d (.sq none .d (.sq (some [.kt 2, .bx 3 [.O (.L .Y), .O (.P (.I .i64) (.L .Y)), .L (.I .i64), .L .B]]) .d .d)))
theorem h_s_FlushDev (x : (List (List UInt8)) × (List (Int × List UInt8)) × Int × Bool) : fnX (P := Try.prog) [.see e_s_l10Copy, .see e_s_DevOk, .gen e_s_l10Flush] [] (sOf Try.prog
 Try.f39) a_s_FlushDev (iOf Try.prog Try.f39) [(true, .P (.L (.L .Y)) (.P (.L (.P (.I .i64) (.L .Y))) (.P (.I .i64) .B)))] [(true, .P (.L (.L .Y)) (.P (.L (.P (.I .i64) (.L .Y)))
 (.P (.I .i64) .B)))] x = F_s_FlushDev x := by kernel_rfl
noncomputable def e_s_FlushDev : SEnt Try.prog := ⟨39, [(true, .P (.L (.L .Y)) (.P (.L (.P (.I .i64) (.L .Y))) (.P (.I .i64) .B)))], [(true, .P (.L (.L .Y)) (.P (.L (.P (.I .i64)
 (.L .Y))) (.P (.I .i64) .B)))], F_s_FlushDev, runs_see mixed_Pf Try.func39 (by kernel_rfl) h_s_FlushDev⟩
def s40_0 : List GI := [⟨(some 2), .wr (.box (.t 0)), none⟩,
 ⟨(some 4), .wr (.alloc [.nl 1, .nl 2, .lf (.int .i64 0), .lf (.bool false)]), none⟩]
def s40_1 : List GI := [⟨(some 7), .rd (.load (some 4) (.t 2)), none⟩,
 ⟨(some 8), .wr (.call 75 [(.t 7)]), none⟩,
 ⟨(some 5), .wr (.alloc [.nl 1, .nl 2, .lf (.int .i64 0), .lf (.bool false)]), none⟩,
 ⟨none, .wr (.store 4 (.t 5) (.t 8)), none⟩]
def s40_2 : List GI := [⟨(some 9), .rd (.load (some 4) (.t 2)), none⟩,
 ⟨(some 10), .wr (.call 35 [(.t 9)]), none⟩,
 ⟨(some 11), .rd (.un .not (.t 10)), none⟩]
def s40_3 : List GI := [⟨(some 12), .rd (.load (some 4) (.t 5)), none⟩,
 ⟨none, .wr (.store 4 (.t 4) (.t 12)), none⟩]
def s40_4 : List GI := [⟨(some 13), .rd (.mv (.t 1)), none⟩,
 ⟨(some 14), .wr (.call 56 [(.t 13), (.k (.a (.c (.lf (.int .i64 0))))), (.k (.a (.c (.lf (.int .i64 1073741823)))))]), none⟩,
 ⟨(some 15), .rd (.un .not (.t 14)), none⟩]
def s40_5 : List GI := [⟨(some 1), .rd (.mv (.k (.a (.c (.lf (.int .i64 0)))))), none⟩]
def s40_6 : List GI := [⟨(some 6), .rd (.mv (.k (.a (.c (.lf (.int .i64 0)))))), none⟩]
def s40_7 : List GI := [⟨(some 16), .rd (.mv (.t 6)), none⟩,
 ⟨(some 17), .rd (.fad 1 (.t 5)), none⟩,
 ⟨(some 18), .rd (.load none (.t 17)), none⟩,
 ⟨(some 19), .rd (.len (.t 18)), none⟩,
 ⟨(some 20), .rd (.bin .lss (.t 16) (.t 19)), none⟩,
 ⟨(some 21), .rd (.mv (.t 20)), none⟩,
 ⟨(some 22), .rd (.mv (.t 6)), (some (21, true))⟩,
 ⟨(some 23), .rd (.bin .lss (.t 22) (.k (.a (.c (.lf (.int .i64 30)))))), (some (21, true))⟩,
 ⟨(some 24), .rd (.pick (.t 21) (.t 23) (.k (.a (.c (.lf (.bool false)))))), none⟩]
def s40_9 : List GI := [⟨(some 27), .rd (.mv (.t 1)), none⟩,
 ⟨(some 28), .rd (.mv (.t 6)), none⟩,
 ⟨(some 29), .rd (.conv .u64 (.t 28)), none⟩,
 ⟨(some 30), .rd (.bin .shr (.t 27) (.t 29)), none⟩,
 ⟨(some 31), .rd (.bin .and (.t 30) (.k (.a (.c (.lf (.int .i64 1)))))), none⟩,
 ⟨(some 32), .rd (.bin .eql (.t 31) (.k (.a (.c (.lf (.int .i64 1)))))), none⟩]
def s40_10 : List DI := [⟨⟨(some 33), .rd (.fad 0 (.t 5)), none⟩, [], false, 0, 0⟩,
 ⟨⟨(some 34), .rd (.load none (.t 33)), none⟩, [0], false, 0, 0⟩,
 ⟨⟨(some 35), .rd (.fad 1 (.t 5)), none⟩, [], false, 0, 0⟩,
 ⟨⟨(some 36), .rd (.load none (.t 35)), none⟩, [2], false, 0, 0⟩,
 ⟨⟨(some 37), .rd (.mv (.t 6)), none⟩, [], false, 0, 0⟩,
 ⟨⟨(some 38), .rd (.iad 2 (.t 36) (.t 37)), none⟩, [3, 4, 2], false, 0, 0⟩,
 ⟨⟨(some 39), .rd (.fad 0 (.t 38)), none⟩, [5, 3, 4, 2], false, 0, 0⟩,
 ⟨⟨(some 40), .rd (.load none (.t 39)), none⟩, [6, 5, 3, 4, 2], false, 0, 0⟩,
 ⟨⟨(some 41), .rd (.fad 1 (.t 5)), none⟩, [], false, 0, 0⟩,
 ⟨⟨(some 42), .rd (.load none (.t 41)), none⟩, [8], false, 0, 0⟩,
 ⟨⟨(some 43), .rd (.mv (.t 6)), none⟩, [], false, 0, 0⟩,
 ⟨⟨(some 44), .rd (.iad 2 (.t 42) (.t 43)), none⟩, [9, 10, 8], false, 0, 0⟩,
 ⟨⟨(some 45), .rd (.fad 1 (.t 44)), none⟩, [11, 9, 10, 8], false, 0, 0⟩,
 ⟨⟨(some 46), .rd (.load none (.t 45)), none⟩, [12, 11, 9, 10, 8], false, 0, 0⟩,
 ⟨⟨(some 47), .rd (.iad 1 (.t 34) (.t 40)), none⟩, [1, 7, 13, 0, 6, 5, 3, 4, 2, 12, 11, 9, 10, 8], false, 0, 0⟩,
 ⟨⟨none, .wr (.store 1 (.t 47) (.t 46)), none⟩, [14, 1, 7, 13, 0, 6, 5, 3, 4, 2, 12, 11, 9, 10, 8], true, 0, 0⟩]
def s40_8 : List GI := [⟨(some 25), .rd (.mv (.t 6)), none⟩,
 ⟨(some 26), .rd (.bin .add (.t 25) (.k (.a (.c (.lf (.int .i64 1)))))), none⟩,
 ⟨(some 6), .rd (.mv (.t 26)), none⟩]
def s40_11 : List GI := [⟨(some 48), .wr (.lit 2 0 [.lf (.int .i64 0), .nl 1] []), none⟩,
 ⟨(some 49), .rd (.fad 1 (.t 5)), none⟩,
 ⟨none, .wr (.store 1 (.t 49) (.t 48)), none⟩]
def s40_12 : List GI := [⟨(some 50), .rd (.fad 3 (.t 5)), none⟩,
 ⟨none, .wr (.store 1 (.t 50) (.k (.a (.c (.lf (.bool false)))))), none⟩]
def s40_13 : List GI := [⟨(some 51), .rd (.fad 2 (.t 5)), none⟩,
 ⟨none, .wr (.store 1 (.t 51) (.k (.a (.c (.lf (.int .i64 (-1))))))), none⟩]
def s40_14 : List GI := [⟨(some 52), .rd (.load (some 4) (.t 5)), none⟩,
 ⟨none, .wr (.store 4 (.t 4) (.t 52)), none⟩]
def s40 : Stm := (.seq (.reg s40_0) (.seq (.reg s40_1) (.seq (.seq (.reg s40_2) (.cond (.t 11) (.seq (.reg s40_3) .ret) .skip)) (.seq (.seq (.reg s40_4) (.cond (.t 15) (.reg s40_5) .skip)) (.seq (.seq (.reg s40_6) (.block 0 (.loop (.seq (.seq (.reg s40_7) (.cond (.t 24) .skip (.exit 0))) (.seq (.block 1 (.seq (.reg s40_9) (.cond (.t 32) (.drw s40_10) .skip))) (.reg s40_8)))))) (.seq (.reg s40_11) (.seq (.reg s40_12) (.seq (.reg s40_13) (.seq (.reg s40_14) .ret)))))))))
theorem tr40 : (Try.f40.body.bind (trC Try.prog Try.f40.ntmps)) = some s40 := by kernel_rfl
section
set_option maxHeartbeats 1000000
set_option maxRecDepth 4000
set_option linter.unusedSimpArgs false
theorem r_in_40 (x lo hi : Int) : Runs Try.prog 56 [.val false [(.rd, .lf (.int .i64 x))], .val false [(.rd, .lf (.int .i64 lo))], .val false [(.rd, .lf (.int .i64 hi))]] ⟨[(false, [.lf (.bool (decide (lo ≤ x) && decide (x ≤ hi)))])], [], []⟩ :=
 e_s_l1In.ok (x, (lo, hi)) (decide (lo ≤ x) && decide (x ≤ hi)) (by
  show F_s_l1In (x, (lo, hi)) = _
  unfold F_s_l1In iGe iLe
  simp only
  by_cases h : lo ≤ x <;> simp [h, cnd] <;> rfl)
theorem runs40 (secs : List (List UInt8)) (cache : List Wr) (fuse : Int) (down : Bool) (n : Int) (hl : secs.length < 2 ^ 39) (hm : cache.length < 2 ^ 39) (hs : ∀ b ∈ secs, b.length < 2 ^ 45) (hc : ∀ w ∈ cache, w.2.length < 2 ^ 45) (r39 : Runs Try.prog 35 [.val true [(.rd, .sl 1 (sD secs)), (.rd, .sl 2 (wD cache)), (.rd, .lf (.int .i64 fuse)), (.rd, .lf (.bool down))]] ⟨[(false, [.lf (.bool (devOk secs cache fuse))])], [], []⟩) (r114 : Runs Try.prog 75 [.val true [(.rd, .sl 1 (sD secs)), (.rd, .sl 2 (wD cache)), (.rd, .lf (.int .i64 fuse)), (.rd, .lf (.bool down))]] ⟨[(true, [.sl 1 (sD secs), .sl 2 (wD cache), .lf (.int .i64 fuse), .lf (.bool down)])], [], []⟩) : Runs Try.prog 40 [.val true [(.rd, .sl 1 (sD secs)), (.rd, .sl 2 (wD cache)), (.rd, .lf (.int .i64 fuse)), (.rd, .lf (.bool down))], .val false [(.rd, .lf (.int .i64 n))]] ⟨[(true, [.sl 1 (sD (faDev secs cache fuse down n).1), .sl 2 (wD (faDev secs cache fuse down n).2.1), .lf (.int .i64 (faDev secs cache fuse down n).2.2.1), .lf (.bool (faDev secs cache fuse down n).2.2.2)])], [], []⟩ := by
 obtain ⟨c, hb, hs⟩ := body_of tr40
 refine runs_of_sw (is := [.load (some 4) (.t 4)]) Try.func40 hb hs (by kernel_rfl) (show 2 ≤ 53 by decide) ?_
 clear hb hs c
 simp only [inAs, inCells, flat, List.flatMap_cons, List.flatMap_nil, Arg.cells, List.cons_append, List.nil_append, inCs, inC, fixN, fixCs, fixC, nBox, inV, inB, rootB, List.length_cons, List.length_nil, List.take_succ_cons, List.take_zero, List.drop_succ_cons, List.drop_zero, env0, Nat.zero_add, Nat.add_zero, List.append_nil, Nat.reduceAdd, sD_len, wD_len]
 unfold s40
 refine sw_seq ?_
 refine sw_reg ?_
 unfold s40_0
 refine os_wro (by intros; nofun) ?_
 refine ⟨_, rfl, ?_⟩
 try simp only [setEnv, Vs.put, killEnv, del, cutR, reduceIte, Nat.reduceEqDiff, Nat.reduceAdd]
 refine os_wro (by intros; nofun) ?_
 simp only [wr]
 try simp only [setEnv, Vs.put, killEnv, del, cutR, reduceIte, Nat.reduceEqDiff, Nat.reduceAdd]
 simp only [runOs, thenQ, blockQ, Vs.put, reduceIte, Nat.reduceEqDiff]
 refine sw_seq ?_
 refine sw_reg ?_
 unfold s40_1
 first | refine os_ev (evq_lgb rfl rfl (Nat.le_of_ble_eq_true rfl) rfl) ?_ | refine os_ev (evq_lge rfl rfl (rfl) (Nat.le_of_ble_eq_true rfl) rfl) ?_
 try simp only [List.take_zero, List.take_succ_cons, List.drop_zero, List.drop_succ_cons, List.nil_append, List.cons_append, List.append_nil, List.length_cons, List.length_nil, Nat.zero_add, Nat.add_zero, Nat.reduceAdd, Nat.reduceMul, toC, toCs, bD_len, sD_len, rep, List.getElem?_cons_zero, List.getElem?_cons_succ]
 refine os_callo ?_
 simp only [List.map_cons, List.map_nil, St.opd, Vs.get, Vs.put, reduceIte, Nat.reduceEqDiff, Option.getD_some]
 refine ⟨_, _, r114, _, rfl, _, rfl, by simp [handIo, handBx], fa_cons (⟨rfl, .inl rfl, by simp [handIo, handBx], _, rfl, by simp, by first | rfl | (simp; done) | exact (List.take_of_length_le (by simp)).symm⟩) (fa_cons (⟨rfl, .inl rfl, by simp [handIo, handBx], _, rfl, by simp, by first | rfl | (simp; done) | exact (List.take_of_length_le (by simp)).symm⟩) (fa_cons (rfl) (fa_cons (rfl) (fa_nil)))), _, rfl, _, rfl, ?_⟩
 simp only [newCs, newRes, newA, resV, List.flatMap_cons, List.flatMap_nil, List.flatten_nil, List.flatten_cons, List.append_nil, List.nil_append, List.cons_append, List.length_cons, List.length_nil, List.drop_succ_cons, List.drop_zero, List.take_succ_cons, List.take_zero, if_true, if_false, Bool.false_eq_true, List.drop_nil, mixCs, isRx, Vs.put, reduceIte, Nat.reduceEqDiff, Nat.zero_add, Nat.reduceAdd, bD_len, sD_len]
 simp only [wD_len]
 try simp only [setEnv, Vs.put, killEnv, del, cutR, reduceIte, Nat.reduceEqDiff, Nat.reduceAdd]
 refine os_wro (by intros; nofun) ?_
 simp only [wr]
 try simp only [setEnv, Vs.put, killEnv, del, cutR, reduceIte, Nat.reduceEqDiff, Nat.reduceAdd]
 refine os_wro (by intros; nofun) ?_
 refine st_box rfl rfl rfl rfl (Nat.le_of_ble_eq_true rfl) ?_
 simp only [List.take_zero, List.take_succ_cons, List.drop_zero, List.drop_succ_cons, List.nil_append, List.cons_append, List.append_nil, List.length_cons, List.length_nil, Nat.zero_add, Nat.add_zero, Nat.reduceAdd, Nat.reduceMul, toC, toCs, bD_len, sD_len, rep, List.getElem?_cons_zero, List.getElem?_cons_succ]
 try simp only [setEnv, Vs.put, killEnv, del, cutR, reduceIte, Nat.reduceEqDiff, Nat.reduceAdd]
 simp only [runOs, thenQ, blockQ, Vs.put, reduceIte, Nat.reduceEqDiff]
 refine sw_seq ?_
 refine sw_seq ?_
 refine sw_reg ?_
 unfold s40_2
 first | refine os_ev (evq_lgb rfl rfl (Nat.le_of_ble_eq_true rfl) rfl) ?_ | refine os_ev (evq_lge rfl rfl (rfl) (Nat.le_of_ble_eq_true rfl) rfl) ?_
 try simp only [List.take_zero, List.take_succ_cons, List.drop_zero, List.drop_succ_cons, List.nil_append, List.cons_append, List.append_nil, List.length_cons, List.length_nil, Nat.zero_add, Nat.add_zero, Nat.reduceAdd, Nat.reduceMul, toC, toCs, bD_len, sD_len, rep, List.getElem?_cons_zero, List.getElem?_cons_succ]
 refine os_callo ?_
 simp only [List.map_cons, List.map_nil, St.opd, Vs.get, Vs.put, reduceIte, Nat.reduceEqDiff, Option.getD_some]
 refine ⟨_, _, r39, _, rfl, _, rfl, by simp [handIo, handBx], fa_cons (⟨rfl, .inl rfl, by simp [handIo, handBx], _, rfl, by simp, by first | rfl | (simp; done) | exact (List.take_of_length_le (by simp)).symm⟩) (fa_cons (⟨rfl, .inl rfl, by simp [handIo, handBx], _, rfl, by simp, by first | rfl | (simp; done) | exact (List.take_of_length_le (by simp)).symm⟩) (fa_cons (rfl) (fa_cons (rfl) (fa_nil)))), _, rfl, _, rfl, ?_⟩
 simp only [newCs, newRes, newA, resV, List.flatMap_cons, List.flatMap_nil, List.flatten_nil, List.flatten_cons, List.append_nil, List.nil_append, List.cons_append, List.length_cons, List.length_nil, List.drop_succ_cons, List.drop_zero, List.take_succ_cons, List.take_zero, if_true, if_false, Bool.false_eq_true, List.drop_nil, mixCs, isRx, Vs.put, reduceIte, Nat.reduceEqDiff, Nat.zero_add, Nat.reduceAdd, bD_len, sD_len]
 try simp only [setEnv, Vs.put, killEnv, del, cutR, reduceIte, Nat.reduceEqDiff, Nat.reduceAdd]
 refine os_ev (evq_un rfl rfl) ?_
 simp only [runOs, thenQ, blockQ, Vs.put, reduceIte, Nat.reduceEqDiff]
 refine sw_cond rfl (fun h1 => ?_) (fun h1 => ?_)
 ·try simp only [decide_eq_true_eq, decide_eq_false_iff_not, bne_iff_ne, beq_iff_eq, bne_eq_false_iff_eq, beq_eq_false_iff_ne, ne_eq, Int.not_lt, Int.not_le, gt_iff_lt, ge_iff_le, Bool.not_eq_true, Bool.not_eq_false, Bool.not_eq_true', Bool.not_eq_false', Bool.and_eq_true, Bool.or_eq_true, Bool.and_eq_false_iff, Bool.or_eq_false_iff] at h1
  rw [faDev_no h1]
  refine sw_seq ?_
  refine sw_reg ?_
  unfold s40_3
  first | refine os_ev (evq_lgb rfl rfl (Nat.le_of_ble_eq_true rfl) rfl) ?_ | refine os_ev (evq_lge rfl rfl (rfl) (Nat.le_of_ble_eq_true rfl) rfl) ?_
  try simp only [List.take_zero, List.take_succ_cons, List.drop_zero, List.drop_succ_cons, List.nil_append, List.cons_append, List.append_nil, List.length_cons, List.length_nil, Nat.zero_add, Nat.add_zero, Nat.reduceAdd, Nat.reduceMul, toC, toCs, bD_len, sD_len, rep, List.getElem?_cons_zero, List.getElem?_cons_succ]
  refine os_wro (by intros; nofun) ?_
  refine st_box rfl rfl rfl rfl (Nat.le_of_ble_eq_true rfl) ?_
  simp only [List.take_zero, List.take_succ_cons, List.drop_zero, List.drop_succ_cons, List.nil_append, List.cons_append, List.append_nil, List.length_cons, List.length_nil, Nat.zero_add, Nat.add_zero, Nat.reduceAdd, Nat.reduceMul, toC, toCs, bD_len, sD_len, rep, List.getElem?_cons_zero, List.getElem?_cons_succ]
  try simp only [setEnv, Vs.put, killEnv, del, cutR, reduceIte, Nat.reduceEqDiff, Nat.reduceAdd]
  simp only [runOs, thenQ, blockQ, Vs.put, reduceIte, Nat.reduceEqDiff]
  refine sw_ret ?_
  simp only [thenQ, blockQ, resK, ev, St.opd, Vs.get, reduceIte, Nat.reduceEqDiff, Option.getD_some]
  refine ⟨_, rfl, Nat.le_of_ble_eq_true rfl, ?_⟩
  simp only [List.take_zero, List.take_succ_cons, List.drop_zero, List.drop_succ_cons, List.nil_append, List.cons_append, List.append_nil, List.length_cons, List.length_nil, Nat.zero_add, Nat.add_zero, Nat.reduceAdd, Nat.reduceMul, toC, toCs, bD_len, sD_len, rep, List.getElem?_cons_zero, List.getElem?_cons_succ, resV]
  exact leaves_a rfl rfl rfl (take_cons rfl (by simp [faL_len]) (take_cons rfl (by simp) (take_lf (take_lf rfl))))
 ·try simp only [decide_eq_true_eq, decide_eq_false_iff_not, bne_iff_ne, beq_iff_eq, bne_eq_false_iff_eq, beq_eq_false_iff_ne, ne_eq, Int.not_lt, Int.not_le, gt_iff_lt, ge_iff_le, Bool.not_eq_true, Bool.not_eq_false, Bool.not_eq_true', Bool.not_eq_false', Bool.and_eq_true, Bool.or_eq_true, Bool.and_eq_false_iff, Bool.or_eq_false_iff] at h1
  obtain ⟨hsl, hcl, hf, _, hd0⟩ := dev_of h1
  have hd : ∀ w ∈ cache, 0 ≤ w.1 ∧ w.1 ≤ (secs.length : Int) - 1 := fun w hw => ⟨(hd0 w hw).1, (hd0 w hw).2.1⟩
  rw [faDev_ok h1]
  refine sw_skip ?_
  simp only [thenQ, blockQ]
  refine sw_seq ?_
  refine sw_seq ?_
  refine sw_reg ?_
  unfold s40_4
  refine os_ev (evq_mvt rfl) ?_
  simp only [Vs.put, reduceIte, Nat.reduceEqDiff]
  refine os_callo ?_
  simp only [List.map_cons, List.map_nil, St.opd, Vs.get, Vs.put, reduceIte, Nat.reduceEqDiff, Option.getD_some]
  refine ⟨_, _, r_in_40 n 0 1073741823, _, rfl, _, rfl, by simp [handIo, handBx], fa_cons (rfl) (fa_cons (rfl) (fa_cons (rfl) (fa_nil))), _, rfl, _, rfl, ?_⟩
  simp only [newCs, newRes, newA, resV, List.flatMap_cons, List.flatMap_nil, List.flatten_nil, List.flatten_cons, List.append_nil, List.nil_append, List.cons_append, List.length_cons, List.length_nil, List.drop_succ_cons, List.drop_zero, List.take_succ_cons, List.take_zero, if_true, if_false, Bool.false_eq_true, List.drop_nil, mixCs, isRx, Vs.put, reduceIte, Nat.reduceEqDiff, Nat.zero_add, Nat.reduceAdd, bD_len, sD_len]
  try simp only [setEnv, Vs.put, killEnv, del, cutR, reduceIte, Nat.reduceEqDiff, Nat.reduceAdd]
  refine os_ev (evq_un rfl rfl) ?_
  simp only [runOs, thenQ, blockQ, Vs.put, reduceIte, Nat.reduceEqDiff]
  refine sw_cond rfl (fun h3 => ?_) (fun h3 => ?_)
  ·try simp only [decide_eq_true_eq, decide_eq_false_iff_not, bne_iff_ne, beq_iff_eq, bne_eq_false_iff_eq, beq_eq_false_iff_ne, ne_eq, Int.not_lt, Int.not_le, gt_iff_lt, ge_iff_le, Bool.not_eq_true, Bool.not_eq_false, Bool.not_eq_true', Bool.not_eq_false', Bool.and_eq_true, Bool.or_eq_true, Bool.and_eq_false_iff, Bool.or_eq_false_iff] at h3
   rw [faN_no (by omega)]
   refine sw_reg ?_
   unfold s40_5
   refine os_ev (evq_mvk) ?_
   simp only [runOs, thenQ, blockQ, Vs.put, reduceIte, Nat.reduceEqDiff]
   refine sw_seq ?_
   refine sw_seq ?_
   refine sw_reg ?_
   unfold s40_6
   refine os_ev (evq_mvk) ?_
   simp only [runOs, thenQ, blockQ, Vs.put, reduceIte, Nat.reduceEqDiff]
   refine sw_block ?_
   refine sw_loop_upd [1, 4, 5, 6, 22, 23, 35] (α := Nat) (fun i => [(6, .a (.c (.lf (.int .i64 (i : Nat)))))]) (fun i => [(6, .bx [.rf 4 [] 1 0 secs.length, .rf 5 [] 2 0 cache.length, .lf (.int .i64 fuse), .lf (.bool down)]), (4, .tr 1 (sD (faL (0 : Int) 0 secs (cache.take i)))), (5, .tr 2 (wP (kb (0 : Int) i) 0 cache)), (3, .bx [.nl 1, .nl 2, .lf (.int .i64 0), .lf (.bool false)])]) (7) (fun i => i ≤ cache.length ∧ i ≤ 30) (fun i => cache.length - i) (0) [(6, 6), (4, 4), (5, 5), (3, 3)] ?_ (by decide) ?_ ?_ ?_
   ·exact ⟨Nat.zero_le _, Nat.zero_le _⟩
   ·simp only [sel, Vs.get, upd, Vs.put, reduceIte, Nat.reduceEqDiff]
    repeat' (first | exact er_nil | refine er_un ?_ | refine er_cons rfl ?_ ?_)
    all_goals (try simp only [V.map, A.map, renC, Vs.get, reduceIte, Nat.reduceEqDiff, List.map_cons, List.map_nil])
    all_goals (try rfl)
   ·repeat' (first | exact rr_nil | refine rr_cons 6 rfl rfl ?_ ?_ | refine rr_cons 4 rfl rfl ?_ ?_ | refine rr_cons 5 rfl rfl ?_ ?_ | refine rr_cons 3 rfl rfl ?_ ?_)
    all_goals (try simp only [renRoot, renC, Vs.get, reduceIte, Nat.reduceEqDiff, List.map_cons, List.map_nil])
    all_goals (try rfl)
    all_goals (first | rfl | exact congrArg (Root.tr 2) (kb_zero _ _).symm)
   ·rintro i hinv
    simp only [sel, Vs.get, upd, Vs.put, reduceIte, Nat.reduceEqDiff]
    refine sw_seq ?_
    refine sw_seq ?_
    refine sw_reg ?_
    unfold s40_7
    refine os_ev (evq_mvt rfl) ?_
    first | refine os_ev (evq_fadb rfl) ?_ | refine os_ev (evq_fade rfl) ?_
    try simp only [List.take_zero, List.take_succ_cons, List.drop_zero, List.drop_succ_cons, List.nil_append, List.cons_append, List.append_nil, List.length_cons, List.length_nil, Nat.zero_add, Nat.add_zero, Nat.reduceAdd, Nat.reduceMul, toC, toCs, bD_len, sD_len, rep, List.getElem?_cons_zero, List.getElem?_cons_succ]
    simp only [Vs.put, reduceIte, Nat.reduceEqDiff]
    first | refine os_ev (evq_ldb rfl rfl rfl) ?_ | refine os_ev (evq_ldl rfl rfl (rfl) rfl) ?_ | refine os_ev (evq_lds rfl rfl (rfl) rfl) ?_
    try simp only [List.take_zero, List.take_succ_cons, List.drop_zero, List.drop_succ_cons, List.nil_append, List.cons_append, List.append_nil, List.length_cons, List.length_nil, Nat.zero_add, Nat.add_zero, Nat.reduceAdd, Nat.reduceMul, toC, toCs, bD_len, sD_len, rep, List.getElem?_cons_zero, List.getElem?_cons_succ]
    first | refine os_ev (evq_lenr rfl) ?_ | refine os_ev (evq_lenn rfl) ?_
    refine os_ev (evq_bin rfl rfl rfl) ?_
    refine os_ev (evq_mvt rfl) ?_
    refine os_gs rfl (fun g21 => ?_) (fun g21 => ?_)
    ·try simp only [g21]
     try simp only [decide_eq_true_eq, decide_eq_false_iff_not, bne_iff_ne, beq_iff_eq, bne_eq_false_iff_eq, beq_eq_false_iff_ne, ne_eq, Int.not_lt, Int.not_le, gt_iff_lt, ge_iff_le, Bool.not_eq_true, Bool.not_eq_false, Bool.not_eq_true', Bool.not_eq_false', Bool.and_eq_true, Bool.or_eq_true, Bool.and_eq_false_iff, Bool.or_eq_false_iff] at g21
     refine os_gdo rfl ?_
     refine os_ev (evq_mvt rfl) ?_
     simp only [Vs.put, reduceIte, Nat.reduceEqDiff]
     refine os_gdo rfl ?_
     refine os_ev (evq_bin rfl rfl rfl) ?_
     refine os_ev (evq_pickt rfl rfl) ?_
     simp only [runOs, thenQ, blockQ, Vs.put, reduceIte, Nat.reduceEqDiff]
     refine sw_cond rfl (fun h5 => ?_) (fun h5 => ?_)
     ·try simp only [decide_eq_true_eq, decide_eq_false_iff_not, bne_iff_ne, beq_iff_eq, bne_eq_false_iff_eq, beq_eq_false_iff_ne, ne_eq, Int.not_lt, Int.not_le, gt_iff_lt, ge_iff_le, Bool.not_eq_true, Bool.not_eq_false, Bool.not_eq_true', Bool.not_eq_false', Bool.and_eq_true, Bool.or_eq_true, Bool.and_eq_false_iff, Bool.or_eq_false_iff] at h5
      have hib : i < cache.length := by omega
      have e1 : IntKind.i64.wrap ((i : Int) + 1) = ((i + 1 : Nat) : Int) := by rw [wrap64 (by omega) (by omega)]; rfl
      have hdi := hd _ (List.getElem_mem hib)
      have hci := hc _ (List.getElem_mem hib)
      obtain ⟨k, hk⟩ : ∃ k : Nat, cache[i].1 = k := ⟨cache[i].1.toNat, by omega⟩
      have hkl : k < secs.length := by omega
      have him : k < (faL (0 : Int) 0 secs (cache.take i)).length := by rw [faL_len]; exact hkl
      have eb := bit64 (n := 0) ⟨by decide, by decide⟩ i
      have hu : IntKind.u64.wrap (i : Int) = (i : Int) := Int.emod_eq_of_lt (by omega) (by simp [IntKind.bits]; omega)
      refine sw_skip ?_
      simp only [thenQ, blockQ]
      refine sw_seq ?_
      refine sw_block ?_
      refine sw_seq ?_
      refine sw_reg ?_
      unfold s40_9
      refine os_ev (evq_mvt rfl) ?_
      refine os_ev (evq_mvt rfl) ?_
      refine os_ev (evq_conv rfl) ?_
      simp only [hu]
      simp only [Vs.put, reduceIte, Nat.reduceEqDiff]
      refine os_ev (evq_shr i rfl rfl rfl (Nat.le_trans (show i ≤ 64 by omega) (by decide))) ?_
      refine os_ev (evq_bin rfl rfl rfl) ?_
      simp only [eb]
      refine os_ev (evq_bin rfl rfl rfl) ?_
      simp only [runOs, thenQ, blockQ, Vs.put, reduceIte, Nat.reduceEqDiff]
      refine sw_cond rfl (fun h6 => ?_) (fun h6 => ?_)
      ·try simp only [decide_eq_true_eq, decide_eq_false_iff_not, bne_iff_ne, beq_iff_eq, bne_eq_false_iff_eq, beq_eq_false_iff_ne, ne_eq, Int.not_lt, Int.not_le, gt_iff_lt, ge_iff_le, Bool.not_eq_true, Bool.not_eq_false, Bool.not_eq_true', Bool.not_eq_false', Bool.and_eq_true, Bool.or_eq_true, Bool.and_eq_false_iff, Bool.or_eq_false_iff] at h6
       have hkt : kept (0 : Int) i = true := kept_yes (by omega) h6
       refine sw_go rfl rfl ?_
       unfold s40_10
       first | refine rd_ev (evq_fadb rfl) rfl ?_ | refine rd_ev (evq_fade rfl) rfl ?_
       try simp only [List.take_zero, List.take_succ_cons, List.drop_zero, List.drop_succ_cons, List.nil_append, List.cons_append, List.append_nil, List.length_cons, List.length_nil, Nat.zero_add, Nat.add_zero, Nat.reduceAdd, Nat.reduceMul, toC, toCs, bD_len, sD_len, rep, List.getElem?_cons_zero, List.getElem?_cons_succ]
       simp only [Vs.put, reduceIte, Nat.reduceEqDiff]
       first | refine rd_m0 (evq_ldb rfl rfl rfl) fa_nil (Nat.not_lt.2 (Nat.le_of_ble_eq_true rfl)) ?_ | refine rd_m0 (evq_ldl rfl rfl (rfl) rfl) fa_nil (Nat.not_lt.2 (Nat.le_of_ble_eq_true rfl)) ?_ | refine rd_m0 (evq_lds rfl rfl (rfl) rfl) fa_nil (Nat.not_lt.2 (Nat.le_of_ble_eq_true rfl)) ?_
       try simp only [List.take_zero, List.take_succ_cons, List.drop_zero, List.drop_succ_cons, List.nil_append, List.cons_append, List.append_nil, List.length_cons, List.length_nil, Nat.zero_add, Nat.add_zero, Nat.reduceAdd, Nat.reduceMul, toC, toCs, bD_len, sD_len, rep, List.getElem?_cons_zero, List.getElem?_cons_succ]
       first | refine rd_ev (evq_fadb rfl) rfl ?_ | refine rd_ev (evq_fade rfl) rfl ?_
       try simp only [List.take_zero, List.take_succ_cons, List.drop_zero, List.drop_succ_cons, List.nil_append, List.cons_append, List.append_nil, List.length_cons, List.length_nil, Nat.zero_add, Nat.add_zero, Nat.reduceAdd, Nat.reduceMul, toC, toCs, bD_len, sD_len, rep, List.getElem?_cons_zero, List.getElem?_cons_succ]
       first | refine rd_m0 (evq_ldb rfl rfl rfl) fa_nil (Nat.not_lt.2 (Nat.le_of_ble_eq_true rfl)) ?_ | refine rd_m0 (evq_ldl rfl rfl (rfl) rfl) fa_nil (Nat.not_lt.2 (Nat.le_of_ble_eq_true rfl)) ?_ | refine rd_m0 (evq_lds rfl rfl (rfl) rfl) fa_nil (Nat.not_lt.2 (Nat.le_of_ble_eq_true rfl)) ?_
       try simp only [List.take_zero, List.take_succ_cons, List.drop_zero, List.drop_succ_cons, List.nil_append, List.cons_append, List.append_nil, List.length_cons, List.length_nil, Nat.zero_add, Nat.add_zero, Nat.reduceAdd, Nat.reduceMul, toC, toCs, bD_len, sD_len, rep, List.getElem?_cons_zero, List.getElem?_cons_succ]
       refine rd_ev (evq_mvt rfl) rfl ?_
       refine rd_ev (evq_iad rfl rfl rfl (by omega)) rfl ?_
       first | refine rd_ev (evq_fadb rfl) rfl ?_ | refine rd_ev (evq_fade rfl) rfl ?_
       try simp only [List.take_zero, List.take_succ_cons, List.drop_zero, List.drop_succ_cons, List.nil_append, List.cons_append, List.append_nil, List.length_cons, List.length_nil, Nat.zero_add, Nat.add_zero, Nat.reduceAdd, Nat.reduceMul, toC, toCs, bD_len, sD_len, rep, List.getElem?_cons_zero, List.getElem?_cons_succ]
       simp only [Vs.put, reduceIte, Nat.reduceEqDiff]
       first | refine rd_m0 (evq_ldb rfl rfl rfl) fa_nil (Nat.not_lt.2 (Nat.le_of_ble_eq_true rfl)) ?_ | refine rd_m0 (evq_ldl rfl rfl (wP_get hib (kb_no _ _)) rfl) fa_nil (Nat.not_lt.2 (Nat.le_of_ble_eq_true rfl)) ?_ | refine rd_m0 (evq_lds rfl rfl (wP_get hib (kb_no _ _)) rfl) fa_nil (Nat.not_lt.2 (Nat.le_of_ble_eq_true rfl)) ?_ | refine rd_m0 (evq_ldl rfl rfl (rfl) rfl) fa_nil (Nat.not_lt.2 (Nat.le_of_ble_eq_true rfl)) ?_ | refine rd_m0 (evq_lds rfl rfl (rfl) rfl) fa_nil (Nat.not_lt.2 (Nat.le_of_ble_eq_true rfl)) ?_
       try simp only [List.take_zero, List.take_succ_cons, List.drop_zero, List.drop_succ_cons, List.nil_append, List.cons_append, List.append_nil, List.length_cons, List.length_nil, Nat.zero_add, Nat.add_zero, Nat.reduceAdd, Nat.reduceMul, toC, toCs, bD_len, sD_len, rep, List.getElem?_cons_zero, List.getElem?_cons_succ]
       first | refine rd_ev (evq_fadb rfl) rfl ?_ | refine rd_ev (evq_fade rfl) rfl ?_
       try simp only [List.take_zero, List.take_succ_cons, List.drop_zero, List.drop_succ_cons, List.nil_append, List.cons_append, List.append_nil, List.length_cons, List.length_nil, Nat.zero_add, Nat.add_zero, Nat.reduceAdd, Nat.reduceMul, toC, toCs, bD_len, sD_len, rep, List.getElem?_cons_zero, List.getElem?_cons_succ]
       first | refine rd_m0 (evq_ldb rfl rfl rfl) fa_nil (Nat.not_lt.2 (Nat.le_of_ble_eq_true rfl)) ?_ | refine rd_m0 (evq_ldl rfl rfl (rfl) rfl) fa_nil (Nat.not_lt.2 (Nat.le_of_ble_eq_true rfl)) ?_ | refine rd_m0 (evq_lds rfl rfl (rfl) rfl) fa_nil (Nat.not_lt.2 (Nat.le_of_ble_eq_true rfl)) ?_
       try simp only [List.take_zero, List.take_succ_cons, List.drop_zero, List.drop_succ_cons, List.nil_append, List.cons_append, List.append_nil, List.length_cons, List.length_nil, Nat.zero_add, Nat.add_zero, Nat.reduceAdd, Nat.reduceMul, toC, toCs, bD_len, sD_len, rep, List.getElem?_cons_zero, List.getElem?_cons_succ]
       refine rd_ev (evq_mvt rfl) rfl ?_
       refine rd_ev (evq_iad rfl rfl rfl (by omega)) rfl ?_
       first | refine rd_ev (evq_fadb rfl) rfl ?_ | refine rd_ev (evq_fade rfl) rfl ?_
       try simp only [List.take_zero, List.take_succ_cons, List.drop_zero, List.drop_succ_cons, List.nil_append, List.cons_append, List.append_nil, List.length_cons, List.length_nil, Nat.zero_add, Nat.add_zero, Nat.reduceAdd, Nat.reduceMul, toC, toCs, bD_len, sD_len, rep, List.getElem?_cons_zero, List.getElem?_cons_succ]
       simp only [Vs.put, reduceIte, Nat.reduceEqDiff]
       first | refine rd_m0 (evq_ldb rfl rfl rfl) fa_nil (Nat.not_lt.2 (Nat.le_of_ble_eq_true rfl)) ?_ | refine rd_m0 (evq_ldl rfl rfl (wP_get hib (kb_no _ _)) rfl) fa_nil (Nat.not_lt.2 (Nat.le_of_ble_eq_true rfl)) ?_ | refine rd_m0 (evq_lds rfl rfl (wP_get hib (kb_no _ _)) rfl) fa_nil (Nat.not_lt.2 (Nat.le_of_ble_eq_true rfl)) ?_ | refine rd_m0 (evq_ldl rfl rfl (rfl) rfl) fa_nil (Nat.not_lt.2 (Nat.le_of_ble_eq_true rfl)) ?_ | refine rd_m0 (evq_lds rfl rfl (rfl) rfl) fa_nil (Nat.not_lt.2 (Nat.le_of_ble_eq_true rfl)) ?_
       try simp only [List.take_zero, List.take_succ_cons, List.drop_zero, List.drop_succ_cons, List.nil_append, List.cons_append, List.append_nil, List.length_cons, List.length_nil, Nat.zero_add, Nat.add_zero, Nat.reduceAdd, Nat.reduceMul, toC, toCs, bD_len, sD_len, rep, List.getElem?_cons_zero, List.getElem?_cons_succ]
       refine rd_ev (evq_iad (j := k) rfl rfl hk (by omega)) rfl ?_
       refine rd_wr (by intros; nofun) ?_
       refine st_slice_in rfl rfl rfl rfl (wP_get hib (kb_no _ _)) rfl (by simp) (by decide) rfl (sD_get him) (by simp) (Nat.zero_le _) ?_
       simp only [killRoots, Root.map, List.map_cons, List.map_nil, del, reduceIte, Nat.reduceEqDiff, List.nil_append, Vs.put, killC]
       rw [sD_setS _ k cache[i].2 him, kb_set hib hkt, ← faL_set hib hk hkt]
       simp only [setEnv, killEnv, V.map, A.map, killC, pre_no, and_false, if_false, List.map_cons, List.map_nil, Vs.put, reduceIte, Nat.reduceEqDiff]
       refine ⟨fa_nil, .inr ⟨by first | rfl | trivial, by first | rfl | decide, ?_⟩⟩
       try simp only [setEnv, killEnv, V.map, A.map, killCs, killC, pre_no, and_false, if_false, List.map_cons, List.map_nil, Vs.put, reduceIte, Nat.reduceEqDiff, List.isPrefixOf, Bool.and_false, Bool.false_and, Bool.false_eq_true]
       try simp only [setEnv, Vs.put, killEnv, del, cutR, reduceIte, Nat.reduceEqDiff, Nat.reduceAdd]
       try refine rd_nil ?_
       simp only [thenQ, blockQ, Vs.put, reduceIte, Nat.reduceEqDiff]
       refine sw_reg ?_
       unfold s40_8
       refine os_ev (evq_mvt rfl) ?_
       refine os_ev (evq_bin rfl rfl rfl) ?_
       simp only [Vs.put, reduceIte, Nat.reduceEqDiff]
       refine os_ev (evq_mvt rfl) ?_
       simp only [runOs, thenQ, blockQ, Vs.put, reduceIte, Nat.reduceEqDiff]
       try simp only [thenQ, blockQ]
       refine ⟨i + 1, ?_, ?_, rfl, [(6, 6), (4, 4), (5, 5), (3, 3)], by decide, ?_, ?_⟩
       ·omega
       ·first | omega | (dsimp only; omega)
       ·simp only [sel, Vs.get, upd, Vs.put, reduceIte, Nat.reduceEqDiff]
        repeat' (first | exact er_nil | refine er_un ?_ | refine er_cons rfl ?_ ?_)
        all_goals (try simp only [V.map, A.map, renC, Vs.get, reduceIte, Nat.reduceEqDiff, List.map_cons, List.map_nil, e1])
       ·repeat' (first | exact rr_nil | refine rr_cons 6 rfl rfl ?_ ?_ | refine rr_cons 4 rfl rfl ?_ ?_ | refine rr_cons 5 rfl rfl ?_ ?_ | refine rr_cons 3 rfl rfl ?_ ?_)
        all_goals (try simp only [renRoot, renC, Vs.get, reduceIte, Nat.reduceEqDiff, List.map_cons, List.map_nil, e1])
      ·try simp only [decide_eq_true_eq, decide_eq_false_iff_not, bne_iff_ne, beq_iff_eq, bne_eq_false_iff_eq, beq_eq_false_iff_ne, ne_eq, Int.not_lt, Int.not_le, gt_iff_lt, ge_iff_le, Bool.not_eq_true, Bool.not_eq_false, Bool.not_eq_true', Bool.not_eq_false', Bool.and_eq_true, Bool.or_eq_true, Bool.and_eq_false_iff, Bool.or_eq_false_iff] at h6
       have hkf : kept (0 : Int) i = false := kept_no (fun hh => h6 hh.2)
       rw [← faL_skip hib hkf, ← kb_skip hkf]
       refine sw_skip ?_
       simp only [thenQ, blockQ]
       refine sw_reg ?_
       unfold s40_8
       refine os_ev (evq_mvt rfl) ?_
       refine os_ev (evq_bin rfl rfl rfl) ?_
       refine os_ev (evq_mvt rfl) ?_
       simp only [runOs, thenQ, blockQ, Vs.put, reduceIte, Nat.reduceEqDiff]
       try simp only [thenQ, blockQ]
       refine ⟨i + 1, ?_, ?_, rfl, [(6, 6), (4, 4), (5, 5), (3, 3)], by decide, ?_, ?_⟩
       ·omega
       ·first | omega | (dsimp only; omega)
       ·simp only [sel, Vs.get, upd, Vs.put, reduceIte, Nat.reduceEqDiff]
        repeat' (first | exact er_nil | refine er_un ?_ | refine er_cons rfl ?_ ?_)
        all_goals (try simp only [V.map, A.map, renC, Vs.get, reduceIte, Nat.reduceEqDiff, List.map_cons, List.map_nil, e1])
       ·repeat' (first | exact rr_nil | refine rr_cons 6 rfl rfl ?_ ?_ | refine rr_cons 4 rfl rfl ?_ ?_ | refine rr_cons 5 rfl rfl ?_ ?_ | refine rr_cons 3 rfl rfl ?_ ?_)
        all_goals (try simp only [renRoot, renC, Vs.get, reduceIte, Nat.reduceEqDiff, List.map_cons, List.map_nil, e1])
     ·try simp only [decide_eq_true_eq, decide_eq_false_iff_not, bne_iff_ne, beq_iff_eq, bne_eq_false_iff_eq, beq_eq_false_iff_ne, ne_eq, Int.not_lt, Int.not_le, gt_iff_lt, ge_iff_le, Bool.not_eq_true, Bool.not_eq_false, Bool.not_eq_true', Bool.not_eq_false', Bool.and_eq_true, Bool.or_eq_true, Bool.and_eq_false_iff, Bool.or_eq_false_iff] at h5
      have hfin : faL (0 : Int) 0 secs cache = faL (0 : Int) 0 secs (cache.take i) := faL_fin (by omega)
      rw [hfin]
      refine sw_exit ?_
      simp only [thenQ, blockQ, if_true, Nat.reduceEqDiff, if_false, reduceIte]
      refine sw_seq ?_
      refine sw_reg ?_
      unfold s40_11
      refine os_wro (by intros; nofun) ?_
      refine .inl ⟨_, rfl, _, rfl, ?_⟩
      simp only [chunk, List.take_zero, List.take_succ_cons, List.drop_zero, List.drop_succ_cons, List.nil_append, List.cons_append, List.append_nil, List.length_cons, List.length_nil, Nat.zero_add, Nat.add_zero, Nat.reduceAdd, Nat.reduceMul, toC, toCs, bD_len, sD_len, rep, List.getElem?_cons_zero, List.getElem?_cons_succ]
      try simp only [setEnv, Vs.put, killEnv, del, cutR, reduceIte, Nat.reduceEqDiff, Nat.reduceAdd]
      first | refine os_ev (evq_fadb rfl) ?_ | refine os_ev (evq_fade rfl) ?_
      try simp only [List.take_zero, List.take_succ_cons, List.drop_zero, List.drop_succ_cons, List.nil_append, List.cons_append, List.append_nil, List.length_cons, List.length_nil, Nat.zero_add, Nat.add_zero, Nat.reduceAdd, Nat.reduceMul, toC, toCs, bD_len, sD_len, rep, List.getElem?_cons_zero, List.getElem?_cons_succ]
      simp only [Vs.put, reduceIte, Nat.reduceEqDiff]
      refine os_wro (by intros; nofun) ?_
      refine st_box rfl rfl rfl rfl (Nat.le_of_ble_eq_true rfl) ?_
      simp only [List.take_zero, List.take_succ_cons, List.drop_zero, List.drop_succ_cons, List.nil_append, List.cons_append, List.append_nil, List.length_cons, List.length_nil, Nat.zero_add, Nat.add_zero, Nat.reduceAdd, Nat.reduceMul, toC, toCs, bD_len, sD_len, rep, List.getElem?_cons_zero, List.getElem?_cons_succ]
      try simp only [setEnv, Vs.put, killEnv, del, cutR, reduceIte, Nat.reduceEqDiff, Nat.reduceAdd]
      simp only [runOs, thenQ, blockQ, Vs.put, reduceIte, Nat.reduceEqDiff]
      refine sw_seq ?_
      refine sw_reg ?_
      unfold s40_12
      first | refine os_ev (evq_fadb rfl) ?_ | refine os_ev (evq_fade rfl) ?_
      try simp only [List.take_zero, List.take_succ_cons, List.drop_zero, List.drop_succ_cons, List.nil_append, List.cons_append, List.append_nil, List.length_cons, List.length_nil, Nat.zero_add, Nat.add_zero, Nat.reduceAdd, Nat.reduceMul, toC, toCs, bD_len, sD_len, rep, List.getElem?_cons_zero, List.getElem?_cons_succ]
      refine os_wro (by intros; nofun) ?_
      refine st_box rfl rfl rfl rfl (Nat.le_of_ble_eq_true rfl) ?_
      simp only [List.take_zero, List.take_succ_cons, List.drop_zero, List.drop_succ_cons, List.nil_append, List.cons_append, List.append_nil, List.length_cons, List.length_nil, Nat.zero_add, Nat.add_zero, Nat.reduceAdd, Nat.reduceMul, toC, toCs, bD_len, sD_len, rep, List.getElem?_cons_zero, List.getElem?_cons_succ]
      try simp only [setEnv, Vs.put, killEnv, del, cutR, reduceIte, Nat.reduceEqDiff, Nat.reduceAdd]
      simp only [runOs, thenQ, blockQ, Vs.put, reduceIte, Nat.reduceEqDiff]
      refine sw_seq ?_
      refine sw_reg ?_
      unfold s40_13
      first | refine os_ev (evq_fadb rfl) ?_ | refine os_ev (evq_fade rfl) ?_
      try simp only [List.take_zero, List.take_succ_cons, List.drop_zero, List.drop_succ_cons, List.nil_append, List.cons_append, List.append_nil, List.length_cons, List.length_nil, Nat.zero_add, Nat.add_zero, Nat.reduceAdd, Nat.reduceMul, toC, toCs, bD_len, sD_len, rep, List.getElem?_cons_zero, List.getElem?_cons_succ]
      refine os_wro (by intros; nofun) ?_
      refine st_box rfl rfl rfl rfl (Nat.le_of_ble_eq_true rfl) ?_
      simp only [List.take_zero, List.take_succ_cons, List.drop_zero, List.drop_succ_cons, List.nil_append, List.cons_append, List.append_nil, List.length_cons, List.length_nil, Nat.zero_add, Nat.add_zero, Nat.reduceAdd, Nat.reduceMul, toC, toCs, bD_len, sD_len, rep, List.getElem?_cons_zero, List.getElem?_cons_succ]
      try simp only [setEnv, Vs.put, killEnv, del, cutR, reduceIte, Nat.reduceEqDiff, Nat.reduceAdd]
      simp only [runOs, thenQ, blockQ, Vs.put, reduceIte, Nat.reduceEqDiff]
      refine sw_seq ?_
      refine sw_reg ?_
      unfold s40_14
      first | refine os_ev (evq_lgb rfl rfl (Nat.le_of_ble_eq_true rfl) rfl) ?_ | refine os_ev (evq_lge rfl rfl (rfl) (Nat.le_of_ble_eq_true rfl) rfl) ?_
      try simp only [List.take_zero, List.take_succ_cons, List.drop_zero, List.drop_succ_cons, List.nil_append, List.cons_append, List.append_nil, List.length_cons, List.length_nil, Nat.zero_add, Nat.add_zero, Nat.reduceAdd, Nat.reduceMul, toC, toCs, bD_len, sD_len, rep, List.getElem?_cons_zero, List.getElem?_cons_succ]
      refine os_wro (by intros; nofun) ?_
      refine st_box rfl rfl rfl rfl (Nat.le_of_ble_eq_true rfl) ?_
      simp only [List.take_zero, List.take_succ_cons, List.drop_zero, List.drop_succ_cons, List.nil_append, List.cons_append, List.append_nil, List.length_cons, List.length_nil, Nat.zero_add, Nat.add_zero, Nat.reduceAdd, Nat.reduceMul, toC, toCs, bD_len, sD_len, rep, List.getElem?_cons_zero, List.getElem?_cons_succ]
      try simp only [setEnv, Vs.put, killEnv, del, cutR, reduceIte, Nat.reduceEqDiff, Nat.reduceAdd]
      simp only [runOs, thenQ, blockQ, Vs.put, reduceIte, Nat.reduceEqDiff]
      refine sw_ret ?_
      simp only [thenQ, blockQ, resK, ev, St.opd, Vs.get, reduceIte, Nat.reduceEqDiff, Option.getD_some]
      refine ⟨_, rfl, Nat.le_of_ble_eq_true rfl, ?_⟩
      simp only [List.take_zero, List.take_succ_cons, List.drop_zero, List.drop_succ_cons, List.nil_append, List.cons_append, List.append_nil, List.length_cons, List.length_nil, Nat.zero_add, Nat.add_zero, Nat.reduceAdd, Nat.reduceMul, toC, toCs, bD_len, sD_len, rep, List.getElem?_cons_zero, List.getElem?_cons_succ, resV]
      exact leaves_a rfl rfl rfl (take_cons rfl (by simp [faL_len]) (take_cons rfl (by simp) (take_lf (take_lf rfl))))
    ·try simp only [g21]
     try simp only [decide_eq_true_eq, decide_eq_false_iff_not, bne_iff_ne, beq_iff_eq, bne_eq_false_iff_eq, beq_eq_false_iff_ne, ne_eq, Int.not_lt, Int.not_le, gt_iff_lt, ge_iff_le, Bool.not_eq_true, Bool.not_eq_false, Bool.not_eq_true', Bool.not_eq_false', Bool.and_eq_true, Bool.or_eq_true, Bool.and_eq_false_iff, Bool.or_eq_false_iff] at g21
     refine os_gno rfl (by decide) ?_
     simp only [Vs.put, reduceIte, Nat.reduceEqDiff]
     refine os_gno rfl (by decide) ?_
     refine os_ev (evq_pickf rfl rfl) ?_
     simp only [runOs, thenQ, blockQ, Vs.put, reduceIte, Nat.reduceEqDiff]
     refine sw_cond rfl (fun h5 => ?_) (fun h5 => ?_)
     ·exact absurd h5 (by simp at h5)
     ·try simp only [decide_eq_true_eq, decide_eq_false_iff_not, bne_iff_ne, beq_iff_eq, bne_eq_false_iff_eq, beq_eq_false_iff_ne, ne_eq, Int.not_lt, Int.not_le, gt_iff_lt, ge_iff_le, Bool.not_eq_true, Bool.not_eq_false, Bool.not_eq_true', Bool.not_eq_false', Bool.and_eq_true, Bool.or_eq_true, Bool.and_eq_false_iff, Bool.or_eq_false_iff] at h5
      have hfin : faL (0 : Int) 0 secs cache = faL (0 : Int) 0 secs (cache.take i) := faL_fin (by omega)
      rw [hfin]
      refine sw_exit ?_
      simp only [thenQ, blockQ, if_true, Nat.reduceEqDiff, if_false, reduceIte]
      refine sw_seq ?_
      refine sw_reg ?_
      unfold s40_11
      refine os_wro (by intros; nofun) ?_
      refine .inl ⟨_, rfl, _, rfl, ?_⟩
      simp only [chunk, List.take_zero, List.take_succ_cons, List.drop_zero, List.drop_succ_cons, List.nil_append, List.cons_append, List.append_nil, List.length_cons, List.length_nil, Nat.zero_add, Nat.add_zero, Nat.reduceAdd, Nat.reduceMul, toC, toCs, bD_len, sD_len, rep, List.getElem?_cons_zero, List.getElem?_cons_succ]
      try simp only [setEnv, Vs.put, killEnv, del, cutR, reduceIte, Nat.reduceEqDiff, Nat.reduceAdd]
      first | refine os_ev (evq_fadb rfl) ?_ | refine os_ev (evq_fade rfl) ?_
      try simp only [List.take_zero, List.take_succ_cons, List.drop_zero, List.drop_succ_cons, List.nil_append, List.cons_append, List.append_nil, List.length_cons, List.length_nil, Nat.zero_add, Nat.add_zero, Nat.reduceAdd, Nat.reduceMul, toC, toCs, bD_len, sD_len, rep, List.getElem?_cons_zero, List.getElem?_cons_succ]
      refine os_wro (by intros; nofun) ?_
      refine st_box rfl rfl rfl rfl (Nat.le_of_ble_eq_true rfl) ?_
      simp only [List.take_zero, List.take_succ_cons, List.drop_zero, List.drop_succ_cons, List.nil_append, List.cons_append, List.append_nil, List.length_cons, List.length_nil, Nat.zero_add, Nat.add_zero, Nat.reduceAdd, Nat.reduceMul, toC, toCs, bD_len, sD_len, rep, List.getElem?_cons_zero, List.getElem?_cons_succ]
      try simp only [setEnv, Vs.put, killEnv, del, cutR, reduceIte, Nat.reduceEqDiff, Nat.reduceAdd]
      simp only [runOs, thenQ, blockQ, Vs.put, reduceIte, Nat.reduceEqDiff]
      refine sw_seq ?_
      refine sw_reg ?_
      unfold s40_12
      first | refine os_ev (evq_fadb rfl) ?_ | refine os_ev (evq_fade rfl) ?_
      try simp only [List.take_zero, List.take_succ_cons, List.drop_zero, List.drop_succ_cons, List.nil_append, List.cons_append, List.append_nil, List.length_cons, List.length_nil, Nat.zero_add, Nat.add_zero, Nat.reduceAdd, Nat.reduceMul, toC, toCs, bD_len, sD_len, rep, List.getElem?_cons_zero, List.getElem?_cons_succ]
      refine os_wro (by intros; nofun) ?_
      refine st_box rfl rfl rfl rfl (Nat.le_of_ble_eq_true rfl) ?_
      simp only [List.take_zero, List.take_succ_cons, List.drop_zero, List.drop_succ_cons, List.nil_append, List.cons_append, List.append_nil, List.length_cons, List.length_nil, Nat.zero_add, Nat.add_zero, Nat.reduceAdd, Nat.reduceMul, toC, toCs, bD_len, sD_len, rep, List.getElem?_cons_zero, List.getElem?_cons_succ]
      try simp only [setEnv, Vs.put, killEnv, del, cutR, reduceIte, Nat.reduceEqDiff, Nat.reduceAdd]
      simp only [runOs, thenQ, blockQ, Vs.put, reduceIte, Nat.reduceEqDiff]
      refine sw_seq ?_
      refine sw_reg ?_
      unfold s40_13
      first | refine os_ev (evq_fadb rfl) ?_ | refine os_ev (evq_fade rfl) ?_
      try simp only [List.take_zero, List.take_succ_cons, List.drop_zero, List.drop_succ_cons, List.nil_append, List.cons_append, List.append_nil, List.length_cons, List.length_nil, Nat.zero_add, Nat.add_zero, Nat.reduceAdd, Nat.reduceMul, toC, toCs, bD_len, sD_len, rep, List.getElem?_cons_zero, List.getElem?_cons_succ]
      refine os_wro (by intros; nofun) ?_
      refine st_box rfl rfl rfl rfl (Nat.le_of_ble_eq_true rfl) ?_
      simp only [List.take_zero, List.take_succ_cons, List.drop_zero, List.drop_succ_cons, List.nil_append, List.cons_append, List.append_nil, List.length_cons, List.length_nil, Nat.zero_add, Nat.add_zero, Nat.reduceAdd, Nat.reduceMul, toC, toCs, bD_len, sD_len, rep, List.getElem?_cons_zero, List.getElem?_cons_succ]
      try simp only [setEnv, Vs.put, killEnv, del, cutR, reduceIte, Nat.reduceEqDiff, Nat.reduceAdd]
      simp only [runOs, thenQ, blockQ, Vs.put, reduceIte, Nat.reduceEqDiff]
      refine sw_seq ?_
      refine sw_reg ?_
      unfold s40_14
      first | refine os_ev (evq_lgb rfl rfl (Nat.le_of_ble_eq_true rfl) rfl) ?_ | refine os_ev (evq_lge rfl rfl (rfl) (Nat.le_of_ble_eq_true rfl) rfl) ?_
      try simp only [List.take_zero, List.take_succ_cons, List.drop_zero, List.drop_succ_cons, List.nil_append, List.cons_append, List.append_nil, List.length_cons, List.length_nil, Nat.zero_add, Nat.add_zero, Nat.reduceAdd, Nat.reduceMul, toC, toCs, bD_len, sD_len, rep, List.getElem?_cons_zero, List.getElem?_cons_succ]
      simp only [Vs.put, reduceIte, Nat.reduceEqDiff]
      refine os_wro (by intros; nofun) ?_
      refine st_box rfl rfl rfl rfl (Nat.le_of_ble_eq_true rfl) ?_
      simp only [List.take_zero, List.take_succ_cons, List.drop_zero, List.drop_succ_cons, List.nil_append, List.cons_append, List.append_nil, List.length_cons, List.length_nil, Nat.zero_add, Nat.add_zero, Nat.reduceAdd, Nat.reduceMul, toC, toCs, bD_len, sD_len, rep, List.getElem?_cons_zero, List.getElem?_cons_succ]
      try simp only [setEnv, Vs.put, killEnv, del, cutR, reduceIte, Nat.reduceEqDiff, Nat.reduceAdd]
      simp only [runOs, thenQ, blockQ, Vs.put, reduceIte, Nat.reduceEqDiff]
      refine sw_ret ?_
      simp only [thenQ, blockQ, resK, ev, St.opd, Vs.get, reduceIte, Nat.reduceEqDiff, Option.getD_some]
      refine ⟨_, rfl, Nat.le_of_ble_eq_true rfl, ?_⟩
      simp only [List.take_zero, List.take_succ_cons, List.drop_zero, List.drop_succ_cons, List.nil_append, List.cons_append, List.append_nil, List.length_cons, List.length_nil, Nat.zero_add, Nat.add_zero, Nat.reduceAdd, Nat.reduceMul, toC, toCs, bD_len, sD_len, rep, List.getElem?_cons_zero, List.getElem?_cons_succ, resV]
      exact leaves_a rfl rfl rfl (take_cons rfl (by simp [faL_len]) (take_cons rfl (by simp) (take_lf (take_lf rfl))))
  ·try simp only [decide_eq_true_eq, decide_eq_false_iff_not, bne_iff_ne, beq_iff_eq, bne_eq_false_iff_eq, beq_eq_false_iff_ne, ne_eq, Int.not_lt, Int.not_le, gt_iff_lt, ge_iff_le, Bool.not_eq_true, Bool.not_eq_false, Bool.not_eq_true', Bool.not_eq_false', Bool.and_eq_true, Bool.or_eq_true, Bool.and_eq_false_iff, Bool.or_eq_false_iff] at h3
   have hn : 0 ≤ n ∧ n ≤ 1073741823 := by omega
   rw [faN_yes hn]
   refine sw_skip ?_
   simp only [thenQ, blockQ]
   refine sw_seq ?_
   refine sw_seq ?_
   refine sw_reg ?_
   unfold s40_6
   refine os_ev (evq_mvk) ?_
   simp only [runOs, thenQ, blockQ, Vs.put, reduceIte, Nat.reduceEqDiff]
   refine sw_block ?_
   refine sw_loop_upd [1, 4, 5, 6, 22, 23, 35] (α := Nat) (fun i => [(6, .a (.c (.lf (.int .i64 (i : Nat)))))]) (fun i => [(6, .bx [.rf 4 [] 1 0 secs.length, .rf 5 [] 2 0 cache.length, .lf (.int .i64 fuse), .lf (.bool down)]), (4, .tr 1 (sD (faL n 0 secs (cache.take i)))), (5, .tr 2 (wP (kb n i) 0 cache)), (3, .bx [.nl 1, .nl 2, .lf (.int .i64 0), .lf (.bool false)])]) (7) (fun i => i ≤ cache.length ∧ i ≤ 30) (fun i => cache.length - i) (0) [(6, 6), (4, 4), (5, 5), (3, 3)] ?_ (by decide) ?_ ?_ ?_
   ·exact ⟨Nat.zero_le _, Nat.zero_le _⟩
   ·simp only [sel, Vs.get, upd, Vs.put, reduceIte, Nat.reduceEqDiff]
    repeat' (first | exact er_nil | refine er_un ?_ | refine er_cons rfl ?_ ?_)
    all_goals (try simp only [V.map, A.map, renC, Vs.get, reduceIte, Nat.reduceEqDiff, List.map_cons, List.map_nil])
    all_goals (try rfl)
   ·repeat' (first | exact rr_nil | refine rr_cons 6 rfl rfl ?_ ?_ | refine rr_cons 4 rfl rfl ?_ ?_ | refine rr_cons 5 rfl rfl ?_ ?_ | refine rr_cons 3 rfl rfl ?_ ?_)
    all_goals (try simp only [renRoot, renC, Vs.get, reduceIte, Nat.reduceEqDiff, List.map_cons, List.map_nil])
    all_goals (try rfl)
    all_goals (first | rfl | exact congrArg (Root.tr 2) (kb_zero _ _).symm)
   ·rintro i hinv
    simp only [sel, Vs.get, upd, Vs.put, reduceIte, Nat.reduceEqDiff]
    refine sw_seq ?_
    refine sw_seq ?_
    refine sw_reg ?_
    unfold s40_7
    refine os_ev (evq_mvt rfl) ?_
    first | refine os_ev (evq_fadb rfl) ?_ | refine os_ev (evq_fade rfl) ?_
    try simp only [List.take_zero, List.take_succ_cons, List.drop_zero, List.drop_succ_cons, List.nil_append, List.cons_append, List.append_nil, List.length_cons, List.length_nil, Nat.zero_add, Nat.add_zero, Nat.reduceAdd, Nat.reduceMul, toC, toCs, bD_len, sD_len, rep, List.getElem?_cons_zero, List.getElem?_cons_succ]
    first | refine os_ev (evq_ldb rfl rfl rfl) ?_ | refine os_ev (evq_ldl rfl rfl (rfl) rfl) ?_ | refine os_ev (evq_lds rfl rfl (rfl) rfl) ?_
    try simp only [List.take_zero, List.take_succ_cons, List.drop_zero, List.drop_succ_cons, List.nil_append, List.cons_append, List.append_nil, List.length_cons, List.length_nil, Nat.zero_add, Nat.add_zero, Nat.reduceAdd, Nat.reduceMul, toC, toCs, bD_len, sD_len, rep, List.getElem?_cons_zero, List.getElem?_cons_succ]
    first | refine os_ev (evq_lenr rfl) ?_ | refine os_ev (evq_lenn rfl) ?_
    simp only [Vs.put, reduceIte, Nat.reduceEqDiff]
    refine os_ev (evq_bin rfl rfl rfl) ?_
    refine os_ev (evq_mvt rfl) ?_
    refine os_gs rfl (fun g21 => ?_) (fun g21 => ?_)
    ·try simp only [g21]
     try simp only [decide_eq_true_eq, decide_eq_false_iff_not, bne_iff_ne, beq_iff_eq, bne_eq_false_iff_eq, beq_eq_false_iff_ne, ne_eq, Int.not_lt, Int.not_le, gt_iff_lt, ge_iff_le, Bool.not_eq_true, Bool.not_eq_false, Bool.not_eq_true', Bool.not_eq_false', Bool.and_eq_true, Bool.or_eq_true, Bool.and_eq_false_iff, Bool.or_eq_false_iff] at g21
     refine os_gdo rfl ?_
     refine os_ev (evq_mvt rfl) ?_
     refine os_gdo rfl ?_
     refine os_ev (evq_bin rfl rfl rfl) ?_
     refine os_ev (evq_pickt rfl rfl) ?_
     simp only [Vs.put, reduceIte, Nat.reduceEqDiff]
     simp only [runOs, thenQ, blockQ, Vs.put, reduceIte, Nat.reduceEqDiff]
     refine sw_cond rfl (fun h5 => ?_) (fun h5 => ?_)
     ·try simp only [decide_eq_true_eq, decide_eq_false_iff_not, bne_iff_ne, beq_iff_eq, bne_eq_false_iff_eq, beq_eq_false_iff_ne, ne_eq, Int.not_lt, Int.not_le, gt_iff_lt, ge_iff_le, Bool.not_eq_true, Bool.not_eq_false, Bool.not_eq_true', Bool.not_eq_false', Bool.and_eq_true, Bool.or_eq_true, Bool.and_eq_false_iff, Bool.or_eq_false_iff] at h5
      have hib : i < cache.length := by omega
      have e1 : IntKind.i64.wrap ((i : Int) + 1) = ((i + 1 : Nat) : Int) := by rw [wrap64 (by omega) (by omega)]; rfl
      have hdi := hd _ (List.getElem_mem hib)
      have hci := hc _ (List.getElem_mem hib)
      obtain ⟨k, hk⟩ : ∃ k : Nat, cache[i].1 = k := ⟨cache[i].1.toNat, by omega⟩
      have hkl : k < secs.length := by omega
      have him : k < (faL n 0 secs (cache.take i)).length := by rw [faL_len]; exact hkl
      have eb := bit64 hn i
      have hu : IntKind.u64.wrap (i : Int) = (i : Int) := Int.emod_eq_of_lt (by omega) (by simp [IntKind.bits]; omega)
      refine sw_skip ?_
      simp only [thenQ, blockQ]
      refine sw_seq ?_
      refine sw_block ?_
      refine sw_seq ?_
      refine sw_reg ?_
      unfold s40_9
      refine os_ev (evq_mvt rfl) ?_
      refine os_ev (evq_mvt rfl) ?_
      refine os_ev (evq_conv rfl) ?_
      simp only [hu]
      refine os_ev (evq_shr i rfl rfl rfl (Nat.le_trans (show i ≤ 64 by omega) (by decide))) ?_
      refine os_ev (evq_bin rfl rfl rfl) ?_
      simp only [eb]
      simp only [Vs.put, reduceIte, Nat.reduceEqDiff]
      refine os_ev (evq_bin rfl rfl rfl) ?_
      simp only [runOs, thenQ, blockQ, Vs.put, reduceIte, Nat.reduceEqDiff]
      refine sw_cond rfl (fun h6 => ?_) (fun h6 => ?_)
      ·try simp only [decide_eq_true_eq, decide_eq_false_iff_not, bne_iff_ne, beq_iff_eq, bne_eq_false_iff_eq, beq_eq_false_iff_ne, ne_eq, Int.not_lt, Int.not_le, gt_iff_lt, ge_iff_le, Bool.not_eq_true, Bool.not_eq_false, Bool.not_eq_true', Bool.not_eq_false', Bool.and_eq_true, Bool.or_eq_true, Bool.and_eq_false_iff, Bool.or_eq_false_iff] at h6
       have hkt : kept n i = true := kept_yes (by omega) h6
       refine sw_go rfl rfl ?_
       unfold s40_10
       first | refine rd_ev (evq_fadb rfl) rfl ?_ | refine rd_ev (evq_fade rfl) rfl ?_
       try simp only [List.take_zero, List.take_succ_cons, List.drop_zero, List.drop_succ_cons, List.nil_append, List.cons_append, List.append_nil, List.length_cons, List.length_nil, Nat.zero_add, Nat.add_zero, Nat.reduceAdd, Nat.reduceMul, toC, toCs, bD_len, sD_len, rep, List.getElem?_cons_zero, List.getElem?_cons_succ]
       first | refine rd_m0 (evq_ldb rfl rfl rfl) fa_nil (Nat.not_lt.2 (Nat.le_of_ble_eq_true rfl)) ?_ | refine rd_m0 (evq_ldl rfl rfl (rfl) rfl) fa_nil (Nat.not_lt.2 (Nat.le_of_ble_eq_true rfl)) ?_ | refine rd_m0 (evq_lds rfl rfl (rfl) rfl) fa_nil (Nat.not_lt.2 (Nat.le_of_ble_eq_true rfl)) ?_
       try simp only [List.take_zero, List.take_succ_cons, List.drop_zero, List.drop_succ_cons, List.nil_append, List.cons_append, List.append_nil, List.length_cons, List.length_nil, Nat.zero_add, Nat.add_zero, Nat.reduceAdd, Nat.reduceMul, toC, toCs, bD_len, sD_len, rep, List.getElem?_cons_zero, List.getElem?_cons_succ]
       first | refine rd_ev (evq_fadb rfl) rfl ?_ | refine rd_ev (evq_fade rfl) rfl ?_
       try simp only [List.take_zero, List.take_succ_cons, List.drop_zero, List.drop_succ_cons, List.nil_append, List.cons_append, List.append_nil, List.length_cons, List.length_nil, Nat.zero_add, Nat.add_zero, Nat.reduceAdd, Nat.reduceMul, toC, toCs, bD_len, sD_len, rep, List.getElem?_cons_zero, List.getElem?_cons_succ]
       simp only [Vs.put, reduceIte, Nat.reduceEqDiff]
       first | refine rd_m0 (evq_ldb rfl rfl rfl) fa_nil (Nat.not_lt.2 (Nat.le_of_ble_eq_true rfl)) ?_ | refine rd_m0 (evq_ldl rfl rfl (rfl) rfl) fa_nil (Nat.not_lt.2 (Nat.le_of_ble_eq_true rfl)) ?_ | refine rd_m0 (evq_lds rfl rfl (rfl) rfl) fa_nil (Nat.not_lt.2 (Nat.le_of_ble_eq_true rfl)) ?_
       try simp only [List.take_zero, List.take_succ_cons, List.drop_zero, List.drop_succ_cons, List.nil_append, List.cons_append, List.append_nil, List.length_cons, List.length_nil, Nat.zero_add, Nat.add_zero, Nat.reduceAdd, Nat.reduceMul, toC, toCs, bD_len, sD_len, rep, List.getElem?_cons_zero, List.getElem?_cons_succ]
       refine rd_ev (evq_mvt rfl) rfl ?_
       refine rd_ev (evq_iad rfl rfl rfl (by omega)) rfl ?_
       first | refine rd_ev (evq_fadb rfl) rfl ?_ | refine rd_ev (evq_fade rfl) rfl ?_
       try simp only [List.take_zero, List.take_succ_cons, List.drop_zero, List.drop_succ_cons, List.nil_append, List.cons_append, List.append_nil, List.length_cons, List.length_nil, Nat.zero_add, Nat.add_zero, Nat.reduceAdd, Nat.reduceMul, toC, toCs, bD_len, sD_len, rep, List.getElem?_cons_zero, List.getElem?_cons_succ]
       first | refine rd_m0 (evq_ldb rfl rfl rfl) fa_nil (Nat.not_lt.2 (Nat.le_of_ble_eq_true rfl)) ?_ | refine rd_m0 (evq_ldl rfl rfl (wP_get hib (kb_no _ _)) rfl) fa_nil (Nat.not_lt.2 (Nat.le_of_ble_eq_true rfl)) ?_ | refine rd_m0 (evq_lds rfl rfl (wP_get hib (kb_no _ _)) rfl) fa_nil (Nat.not_lt.2 (Nat.le_of_ble_eq_true rfl)) ?_ | refine rd_m0 (evq_ldl rfl rfl (rfl) rfl) fa_nil (Nat.not_lt.2 (Nat.le_of_ble_eq_true rfl)) ?_ | refine rd_m0 (evq_lds rfl rfl (rfl) rfl) fa_nil (Nat.not_lt.2 (Nat.le_of_ble_eq_true rfl)) ?_
       try simp only [List.take_zero, List.take_succ_cons, List.drop_zero, List.drop_succ_cons, List.nil_append, List.cons_append, List.append_nil, List.length_cons, List.length_nil, Nat.zero_add, Nat.add_zero, Nat.reduceAdd, Nat.reduceMul, toC, toCs, bD_len, sD_len, rep, List.getElem?_cons_zero, List.getElem?_cons_succ]
       first | refine rd_ev (evq_fadb rfl) rfl ?_ | refine rd_ev (evq_fade rfl) rfl ?_
       try simp only [List.take_zero, List.take_succ_cons, List.drop_zero, List.drop_succ_cons, List.nil_append, List.cons_append, List.append_nil, List.length_cons, List.length_nil, Nat.zero_add, Nat.add_zero, Nat.reduceAdd, Nat.reduceMul, toC, toCs, bD_len, sD_len, rep, List.getElem?_cons_zero, List.getElem?_cons_succ]
       simp only [Vs.put, reduceIte, Nat.reduceEqDiff]
       first | refine rd_m0 (evq_ldb rfl rfl rfl) fa_nil (Nat.not_lt.2 (Nat.le_of_ble_eq_true rfl)) ?_ | refine rd_m0 (evq_ldl rfl rfl (rfl) rfl) fa_nil (Nat.not_lt.2 (Nat.le_of_ble_eq_true rfl)) ?_ | refine rd_m0 (evq_lds rfl rfl (rfl) rfl) fa_nil (Nat.not_lt.2 (Nat.le_of_ble_eq_true rfl)) ?_
       try simp only [List.take_zero, List.take_succ_cons, List.drop_zero, List.drop_succ_cons, List.nil_append, List.cons_append, List.append_nil, List.length_cons, List.length_nil, Nat.zero_add, Nat.add_zero, Nat.reduceAdd, Nat.reduceMul, toC, toCs, bD_len, sD_len, rep, List.getElem?_cons_zero, List.getElem?_cons_succ]
       refine rd_ev (evq_mvt rfl) rfl ?_
       refine rd_ev (evq_iad rfl rfl rfl (by omega)) rfl ?_
       first | refine rd_ev (evq_fadb rfl) rfl ?_ | refine rd_ev (evq_fade rfl) rfl ?_
       try simp only [List.take_zero, List.take_succ_cons, List.drop_zero, List.drop_succ_cons, List.nil_append, List.cons_append, List.append_nil, List.length_cons, List.length_nil, Nat.zero_add, Nat.add_zero, Nat.reduceAdd, Nat.reduceMul, toC, toCs, bD_len, sD_len, rep, List.getElem?_cons_zero, List.getElem?_cons_succ]
       first | refine rd_m0 (evq_ldb rfl rfl rfl) fa_nil (Nat.not_lt.2 (Nat.le_of_ble_eq_true rfl)) ?_ | refine rd_m0 (evq_ldl rfl rfl (wP_get hib (kb_no _ _)) rfl) fa_nil (Nat.not_lt.2 (Nat.le_of_ble_eq_true rfl)) ?_ | refine rd_m0 (evq_lds rfl rfl (wP_get hib (kb_no _ _)) rfl) fa_nil (Nat.not_lt.2 (Nat.le_of_ble_eq_true rfl)) ?_ | refine rd_m0 (evq_ldl rfl rfl (rfl) rfl) fa_nil (Nat.not_lt.2 (Nat.le_of_ble_eq_true rfl)) ?_ | refine rd_m0 (evq_lds rfl rfl (rfl) rfl) fa_nil (Nat.not_lt.2 (Nat.le_of_ble_eq_true rfl)) ?_
       try simp only [List.take_zero, List.take_succ_cons, List.drop_zero, List.drop_succ_cons, List.nil_append, List.cons_append, List.append_nil, List.length_cons, List.length_nil, Nat.zero_add, Nat.add_zero, Nat.reduceAdd, Nat.reduceMul, toC, toCs, bD_len, sD_len, rep, List.getElem?_cons_zero, List.getElem?_cons_succ]
       refine rd_ev (evq_iad (j := k) rfl rfl hk (by omega)) rfl ?_
       simp only [Vs.put, reduceIte, Nat.reduceEqDiff]
       refine rd_wr (by intros; nofun) ?_
       refine st_slice_in rfl rfl rfl rfl (wP_get hib (kb_no _ _)) rfl (by simp) (by decide) rfl (sD_get him) (by simp) (Nat.zero_le _) ?_
       simp only [killRoots, Root.map, List.map_cons, List.map_nil, del, reduceIte, Nat.reduceEqDiff, List.nil_append, Vs.put, killC]
       rw [sD_setS _ k cache[i].2 him, kb_set hib hkt, ← faL_set hib hk hkt]
       simp only [setEnv, killEnv, V.map, A.map, killC, pre_no, and_false, if_false, List.map_cons, List.map_nil, Vs.put, reduceIte, Nat.reduceEqDiff]
       refine ⟨fa_nil, .inr ⟨by first | rfl | trivial, by first | rfl | decide, ?_⟩⟩
       try simp only [setEnv, killEnv, V.map, A.map, killCs, killC, pre_no, and_false, if_false, List.map_cons, List.map_nil, Vs.put, reduceIte, Nat.reduceEqDiff, List.isPrefixOf, Bool.and_false, Bool.false_and, Bool.false_eq_true]
       try simp only [setEnv, Vs.put, killEnv, del, cutR, reduceIte, Nat.reduceEqDiff, Nat.reduceAdd]
       try refine rd_nil ?_
       simp only [thenQ, blockQ, Vs.put, reduceIte, Nat.reduceEqDiff]
       refine sw_reg ?_
       unfold s40_8
       refine os_ev (evq_mvt rfl) ?_
       refine os_ev (evq_bin rfl rfl rfl) ?_
       refine os_ev (evq_mvt rfl) ?_
       simp only [runOs, thenQ, blockQ, Vs.put, reduceIte, Nat.reduceEqDiff]
       try simp only [thenQ, blockQ]
       refine ⟨i + 1, ?_, ?_, rfl, [(6, 6), (4, 4), (5, 5), (3, 3)], by decide, ?_, ?_⟩
       ·omega
       ·first | omega | (dsimp only; omega)
       ·simp only [sel, Vs.get, upd, Vs.put, reduceIte, Nat.reduceEqDiff]
        repeat' (first | exact er_nil | refine er_un ?_ | refine er_cons rfl ?_ ?_)
        all_goals (try simp only [V.map, A.map, renC, Vs.get, reduceIte, Nat.reduceEqDiff, List.map_cons, List.map_nil, e1])
       ·repeat' (first | exact rr_nil | refine rr_cons 6 rfl rfl ?_ ?_ | refine rr_cons 4 rfl rfl ?_ ?_ | refine rr_cons 5 rfl rfl ?_ ?_ | refine rr_cons 3 rfl rfl ?_ ?_)
        all_goals (try simp only [renRoot, renC, Vs.get, reduceIte, Nat.reduceEqDiff, List.map_cons, List.map_nil, e1])
      ·try simp only [decide_eq_true_eq, decide_eq_false_iff_not, bne_iff_ne, beq_iff_eq, bne_eq_false_iff_eq, beq_eq_false_iff_ne, ne_eq, Int.not_lt, Int.not_le, gt_iff_lt, ge_iff_le, Bool.not_eq_true, Bool.not_eq_false, Bool.not_eq_true', Bool.not_eq_false', Bool.and_eq_true, Bool.or_eq_true, Bool.and_eq_false_iff, Bool.or_eq_false_iff] at h6
       have hkf : kept n i = false := kept_no (fun hh => h6 hh.2)
       rw [← faL_skip hib hkf, ← kb_skip hkf]
       refine sw_skip ?_
       simp only [thenQ, blockQ]
       refine sw_reg ?_
       unfold s40_8
       refine os_ev (evq_mvt rfl) ?_
       simp only [Vs.put, reduceIte, Nat.reduceEqDiff]
       refine os_ev (evq_bin rfl rfl rfl) ?_
       refine os_ev (evq_mvt rfl) ?_
       simp only [runOs, thenQ, blockQ, Vs.put, reduceIte, Nat.reduceEqDiff]
       try simp only [thenQ, blockQ]
       refine ⟨i + 1, ?_, ?_, rfl, [(6, 6), (4, 4), (5, 5), (3, 3)], by decide, ?_, ?_⟩
       ·omega
       ·first | omega | (dsimp only; omega)
       ·simp only [sel, Vs.get, upd, Vs.put, reduceIte, Nat.reduceEqDiff]
        repeat' (first | exact er_nil | refine er_un ?_ | refine er_cons rfl ?_ ?_)
        all_goals (try simp only [V.map, A.map, renC, Vs.get, reduceIte, Nat.reduceEqDiff, List.map_cons, List.map_nil, e1])
       ·repeat' (first | exact rr_nil | refine rr_cons 6 rfl rfl ?_ ?_ | refine rr_cons 4 rfl rfl ?_ ?_ | refine rr_cons 5 rfl rfl ?_ ?_ | refine rr_cons 3 rfl rfl ?_ ?_)
        all_goals (try simp only [renRoot, renC, Vs.get, reduceIte, Nat.reduceEqDiff, List.map_cons, List.map_nil, e1])
     ·try simp only [decide_eq_true_eq, decide_eq_false_iff_not, bne_iff_ne, beq_iff_eq, bne_eq_false_iff_eq, beq_eq_false_iff_ne, ne_eq, Int.not_lt, Int.not_le, gt_iff_lt, ge_iff_le, Bool.not_eq_true, Bool.not_eq_false, Bool.not_eq_true', Bool.not_eq_false', Bool.and_eq_true, Bool.or_eq_true, Bool.and_eq_false_iff, Bool.or_eq_false_iff] at h5
      have hfin : faL n 0 secs cache = faL n 0 secs (cache.take i) := faL_fin (by omega)
      rw [hfin]
      refine sw_exit ?_
      simp only [thenQ, blockQ, if_true, Nat.reduceEqDiff, if_false, reduceIte]
      refine sw_seq ?_
      refine sw_reg ?_
      unfold s40_11
      refine os_wro (by intros; nofun) ?_
      refine .inl ⟨_, rfl, _, rfl, ?_⟩
      simp only [chunk, List.take_zero, List.take_succ_cons, List.drop_zero, List.drop_succ_cons, List.nil_append, List.cons_append, List.append_nil, List.length_cons, List.length_nil, Nat.zero_add, Nat.add_zero, Nat.reduceAdd, Nat.reduceMul, toC, toCs, bD_len, sD_len, rep, List.getElem?_cons_zero, List.getElem?_cons_succ]
      try simp only [setEnv, Vs.put, killEnv, del, cutR, reduceIte, Nat.reduceEqDiff, Nat.reduceAdd]
      first | refine os_ev (evq_fadb rfl) ?_ | refine os_ev (evq_fade rfl) ?_
      try simp only [List.take_zero, List.take_succ_cons, List.drop_zero, List.drop_succ_cons, List.nil_append, List.cons_append, List.append_nil, List.length_cons, List.length_nil, Nat.zero_add, Nat.add_zero, Nat.reduceAdd, Nat.reduceMul, toC, toCs, bD_len, sD_len, rep, List.getElem?_cons_zero, List.getElem?_cons_succ]
      refine os_wro (by intros; nofun) ?_
      refine st_box rfl rfl rfl rfl (Nat.le_of_ble_eq_true rfl) ?_
      simp only [List.take_zero, List.take_succ_cons, List.drop_zero, List.drop_succ_cons, List.nil_append, List.cons_append, List.append_nil, List.length_cons, List.length_nil, Nat.zero_add, Nat.add_zero, Nat.reduceAdd, Nat.reduceMul, toC, toCs, bD_len, sD_len, rep, List.getElem?_cons_zero, List.getElem?_cons_succ]
      try simp only [setEnv, Vs.put, killEnv, del, cutR, reduceIte, Nat.reduceEqDiff, Nat.reduceAdd]
      simp only [runOs, thenQ, blockQ, Vs.put, reduceIte, Nat.reduceEqDiff]
      refine sw_seq ?_
      refine sw_reg ?_
      unfold s40_12
      first | refine os_ev (evq_fadb rfl) ?_ | refine os_ev (evq_fade rfl) ?_
      try simp only [List.take_zero, List.take_succ_cons, List.drop_zero, List.drop_succ_cons, List.nil_append, List.cons_append, List.append_nil, List.length_cons, List.length_nil, Nat.zero_add, Nat.add_zero, Nat.reduceAdd, Nat.reduceMul, toC, toCs, bD_len, sD_len, rep, List.getElem?_cons_zero, List.getElem?_cons_succ]
      refine os_wro (by intros; nofun) ?_
      refine st_box rfl rfl rfl rfl (Nat.le_of_ble_eq_true rfl) ?_
      simp only [List.take_zero, List.take_succ_cons, List.drop_zero, List.drop_succ_cons, List.nil_append, List.cons_append, List.append_nil, List.length_cons, List.length_nil, Nat.zero_add, Nat.add_zero, Nat.reduceAdd, Nat.reduceMul, toC, toCs, bD_len, sD_len, rep, List.getElem?_cons_zero, List.getElem?_cons_succ]
      try simp only [setEnv, Vs.put, killEnv, del, cutR, reduceIte, Nat.reduceEqDiff, Nat.reduceAdd]
      simp only [runOs, thenQ, blockQ, Vs.put, reduceIte, Nat.reduceEqDiff]
      refine sw_seq ?_
      refine sw_reg ?_
      unfold s40_13
      first | refine os_ev (evq_fadb rfl) ?_ | refine os_ev (evq_fade rfl) ?_
      try simp only [List.take_zero, List.take_succ_cons, List.drop_zero, List.drop_succ_cons, List.nil_append, List.cons_append, List.append_nil, List.length_cons, List.length_nil, Nat.zero_add, Nat.add_zero, Nat.reduceAdd, Nat.reduceMul, toC, toCs, bD_len, sD_len, rep, List.getElem?_cons_zero, List.getElem?_cons_succ]
      simp only [Vs.put, reduceIte, Nat.reduceEqDiff]
      refine os_wro (by intros; nofun) ?_
      refine st_box rfl rfl rfl rfl (Nat.le_of_ble_eq_true rfl) ?_
      simp only [List.take_zero, List.take_succ_cons, List.drop_zero, List.drop_succ_cons, List.nil_append, List.cons_append, List.append_nil, List.length_cons, List.length_nil, Nat.zero_add, Nat.add_zero, Nat.reduceAdd, Nat.reduceMul, toC, toCs, bD_len, sD_len, rep, List.getElem?_cons_zero, List.getElem?_cons_succ]
      try simp only [setEnv, Vs.put, killEnv, del, cutR, reduceIte, Nat.reduceEqDiff, Nat.reduceAdd]
      simp only [runOs, thenQ, blockQ, Vs.put, reduceIte, Nat.reduceEqDiff]
      refine sw_seq ?_
      refine sw_reg ?_
      unfold s40_14
      first | refine os_ev (evq_lgb rfl rfl (Nat.le_of_ble_eq_true rfl) rfl) ?_ | refine os_ev (evq_lge rfl rfl (rfl) (Nat.le_of_ble_eq_true rfl) rfl) ?_
      try simp only [List.take_zero, List.take_succ_cons, List.drop_zero, List.drop_succ_cons, List.nil_append, List.cons_append, List.append_nil, List.length_cons, List.length_nil, Nat.zero_add, Nat.add_zero, Nat.reduceAdd, Nat.reduceMul, toC, toCs, bD_len, sD_len, rep, List.getElem?_cons_zero, List.getElem?_cons_succ]
      refine os_wro (by intros; nofun) ?_
      refine st_box rfl rfl rfl rfl (Nat.le_of_ble_eq_true rfl) ?_
      simp only [List.take_zero, List.take_succ_cons, List.drop_zero, List.drop_succ_cons, List.nil_append, List.cons_append, List.append_nil, List.length_cons, List.length_nil, Nat.zero_add, Nat.add_zero, Nat.reduceAdd, Nat.reduceMul, toC, toCs, bD_len, sD_len, rep, List.getElem?_cons_zero, List.getElem?_cons_succ]
      try simp only [setEnv, Vs.put, killEnv, del, cutR, reduceIte, Nat.reduceEqDiff, Nat.reduceAdd]
      simp only [runOs, thenQ, blockQ, Vs.put, reduceIte, Nat.reduceEqDiff]
      refine sw_ret ?_
      simp only [thenQ, blockQ, resK, ev, St.opd, Vs.get, reduceIte, Nat.reduceEqDiff, Option.getD_some]
      refine ⟨_, rfl, Nat.le_of_ble_eq_true rfl, ?_⟩
      simp only [List.take_zero, List.take_succ_cons, List.drop_zero, List.drop_succ_cons, List.nil_append, List.cons_append, List.append_nil, List.length_cons, List.length_nil, Nat.zero_add, Nat.add_zero, Nat.reduceAdd, Nat.reduceMul, toC, toCs, bD_len, sD_len, rep, List.getElem?_cons_zero, List.getElem?_cons_succ, resV]
      exact leaves_a rfl rfl rfl (take_cons rfl (by simp [faL_len]) (take_cons rfl (by simp) (take_lf (take_lf rfl))))
    ·try simp only [g21]
     try simp only [decide_eq_true_eq, decide_eq_false_iff_not, bne_iff_ne, beq_iff_eq, bne_eq_false_iff_eq, beq_eq_false_iff_ne, ne_eq, Int.not_lt, Int.not_le, gt_iff_lt, ge_iff_le, Bool.not_eq_true, Bool.not_eq_false, Bool.not_eq_true', Bool.not_eq_false', Bool.and_eq_true, Bool.or_eq_true, Bool.and_eq_false_iff, Bool.or_eq_false_iff] at g21
     refine os_gno rfl (by decide) ?_
     refine os_gno rfl (by decide) ?_
     simp only [Vs.put, reduceIte, Nat.reduceEqDiff]
     refine os_ev (evq_pickf rfl rfl) ?_
     simp only [runOs, thenQ, blockQ, Vs.put, reduceIte, Nat.reduceEqDiff]
     refine sw_cond rfl (fun h5 => ?_) (fun h5 => ?_)
     ·exact absurd h5 (by simp at h5)
     ·try simp only [decide_eq_true_eq, decide_eq_false_iff_not, bne_iff_ne, beq_iff_eq, bne_eq_false_iff_eq, beq_eq_false_iff_ne, ne_eq, Int.not_lt, Int.not_le, gt_iff_lt, ge_iff_le, Bool.not_eq_true, Bool.not_eq_false, Bool.not_eq_true', Bool.not_eq_false', Bool.and_eq_true, Bool.or_eq_true, Bool.and_eq_false_iff, Bool.or_eq_false_iff] at h5
      have hfin : faL n 0 secs cache = faL n 0 secs (cache.take i) := faL_fin (by omega)
      rw [hfin]
      refine sw_exit ?_
      simp only [thenQ, blockQ, if_true, Nat.reduceEqDiff, if_false, reduceIte]
      refine sw_seq ?_
      refine sw_reg ?_
      unfold s40_11
      refine os_wro (by intros; nofun) ?_
      refine .inl ⟨_, rfl, _, rfl, ?_⟩
      simp only [chunk, List.take_zero, List.take_succ_cons, List.drop_zero, List.drop_succ_cons, List.nil_append, List.cons_append, List.append_nil, List.length_cons, List.length_nil, Nat.zero_add, Nat.add_zero, Nat.reduceAdd, Nat.reduceMul, toC, toCs, bD_len, sD_len, rep, List.getElem?_cons_zero, List.getElem?_cons_succ]
      try simp only [setEnv, Vs.put, killEnv, del, cutR, reduceIte, Nat.reduceEqDiff, Nat.reduceAdd]
      first | refine os_ev (evq_fadb rfl) ?_ | refine os_ev (evq_fade rfl) ?_
      try simp only [List.take_zero, List.take_succ_cons, List.drop_zero, List.drop_succ_cons, List.nil_append, List.cons_append, List.append_nil, List.length_cons, List.length_nil, Nat.zero_add, Nat.add_zero, Nat.reduceAdd, Nat.reduceMul, toC, toCs, bD_len, sD_len, rep, List.getElem?_cons_zero, List.getElem?_cons_succ]
      simp only [Vs.put, reduceIte, Nat.reduceEqDiff]
      refine os_wro (by intros; nofun) ?_
      refine st_box rfl rfl rfl rfl (Nat.le_of_ble_eq_true rfl) ?_
      simp only [List.take_zero, List.take_succ_cons, List.drop_zero, List.drop_succ_cons, List.nil_append, List.cons_append, List.append_nil, List.length_cons, List.length_nil, Nat.zero_add, Nat.add_zero, Nat.reduceAdd, Nat.reduceMul, toC, toCs, bD_len, sD_len, rep, List.getElem?_cons_zero, List.getElem?_cons_succ]
      try simp only [setEnv, Vs.put, killEnv, del, cutR, reduceIte, Nat.reduceEqDiff, Nat.reduceAdd]
      simp only [runOs, thenQ, blockQ, Vs.put, reduceIte, Nat.reduceEqDiff]
      refine sw_seq ?_
      refine sw_reg ?_
      unfold s40_12
      first | refine os_ev (evq_fadb rfl) ?_ | refine os_ev (evq_fade rfl) ?_
      try simp only [List.take_zero, List.take_succ_cons, List.drop_zero, List.drop_succ_cons, List.nil_append, List.cons_append, List.append_nil, List.length_cons, List.length_nil, Nat.zero_add, Nat.add_zero, Nat.reduceAdd, Nat.reduceMul, toC, toCs, bD_len, sD_len, rep, List.getElem?_cons_zero, List.getElem?_cons_succ]
      refine os_wro (by intros; nofun) ?_
      refine st_box rfl rfl rfl rfl (Nat.le_of_ble_eq_true rfl) ?_
      simp only [List.take_zero, List.take_succ_cons, List.drop_zero, List.drop_succ_cons, List.nil_append, List.cons_append, List.append_nil, List.length_cons, List.length_nil, Nat.zero_add, Nat.add_zero, Nat.reduceAdd, Nat.reduceMul, toC, toCs, bD_len, sD_len, rep, List.getElem?_cons_zero, List.getElem?_cons_succ]
      try simp only [setEnv, Vs.put, killEnv, del, cutR, reduceIte, Nat.reduceEqDiff, Nat.reduceAdd]
      simp only [runOs, thenQ, blockQ, Vs.put, reduceIte, Nat.reduceEqDiff]
      refine sw_seq ?_
      refine sw_reg ?_
      unfold s40_13
      first | refine os_ev (evq_fadb rfl) ?_ | refine os_ev (evq_fade rfl) ?_
      try simp only [List.take_zero, List.take_succ_cons, List.drop_zero, List.drop_succ_cons, List.nil_append, List.cons_append, List.append_nil, List.length_cons, List.length_nil, Nat.zero_add, Nat.add_zero, Nat.reduceAdd, Nat.reduceMul, toC, toCs, bD_len, sD_len, rep, List.getElem?_cons_zero, List.getElem?_cons_succ]
      refine os_wro (by intros; nofun) ?_
      refine st_box rfl rfl rfl rfl (Nat.le_of_ble_eq_true rfl) ?_
      simp only [List.take_zero, List.take_succ_cons, List.drop_zero, List.drop_succ_cons, List.nil_append, List.cons_append, List.append_nil, List.length_cons, List.length_nil, Nat.zero_add, Nat.add_zero, Nat.reduceAdd, Nat.reduceMul, toC, toCs, bD_len, sD_len, rep, List.getElem?_cons_zero, List.getElem?_cons_succ]
      try simp only [setEnv, Vs.put, killEnv, del, cutR, reduceIte, Nat.reduceEqDiff, Nat.reduceAdd]
      simp only [runOs, thenQ, blockQ, Vs.put, reduceIte, Nat.reduceEqDiff]
      refine sw_seq ?_
      refine sw_reg ?_
      unfold s40_14
      first | refine os_ev (evq_lgb rfl rfl (Nat.le_of_ble_eq_true rfl) rfl) ?_ | refine os_ev (evq_lge rfl rfl (rfl) (Nat.le_of_ble_eq_true rfl) rfl) ?_
      try simp only [List.take_zero, List.take_succ_cons, List.drop_zero, List.drop_succ_cons, List.nil_append, List.cons_append, List.append_nil, List.length_cons, List.length_nil, Nat.zero_add, Nat.add_zero, Nat.reduceAdd, Nat.reduceMul, toC, toCs, bD_len, sD_len, rep, List.getElem?_cons_zero, List.getElem?_cons_succ]
      refine os_wro (by intros; nofun) ?_
      refine st_box rfl rfl rfl rfl (Nat.le_of_ble_eq_true rfl) ?_
      simp only [List.take_zero, List.take_succ_cons, List.drop_zero, List.drop_succ_cons, List.nil_append, List.cons_append, List.append_nil, List.length_cons, List.length_nil, Nat.zero_add, Nat.add_zero, Nat.reduceAdd, Nat.reduceMul, toC, toCs, bD_len, sD_len, rep, List.getElem?_cons_zero, List.getElem?_cons_succ]
      try simp only [setEnv, Vs.put, killEnv, del, cutR, reduceIte, Nat.reduceEqDiff, Nat.reduceAdd]
      simp only [runOs, thenQ, blockQ, Vs.put, reduceIte, Nat.reduceEqDiff]
      refine sw_ret ?_
      simp only [thenQ, blockQ, resK, ev, St.opd, Vs.get, reduceIte, Nat.reduceEqDiff, Option.getD_some]
      refine ⟨_, rfl, Nat.le_of_ble_eq_true rfl, ?_⟩
      simp only [List.take_zero, List.take_succ_cons, List.drop_zero, List.drop_succ_cons, List.nil_append, List.cons_append, List.append_nil, List.length_cons, List.length_nil, Nat.zero_add, Nat.add_zero, Nat.reduceAdd, Nat.reduceMul, toC, toCs, bD_len, sD_len, rep, List.getElem?_cons_zero, List.getElem?_cons_succ, resV]
      exact leaves_a rfl rfl rfl (take_cons rfl (by simp [faL_len]) (take_cons rfl (by simp) (take_lf (take_lf rfl))))
end
noncomputable def e_s_FallDev : SEnt Try.prog := ⟨40, [(true, .P (.L (.L .Y)) (.P (.L (.P (.I .i64) (.L .Y))) (.P (.I .i64) .B))), (false, .I .i64)], [(true, .P (.L (.L .Y)) (.P (.L (.P (.I .i64) (.L .Y))) (.P (.I .i64) .B)))], F_s_FallDev, fun x y hy => by
 unfold F_s_FallDev at hy
 obtain ⟨_, e1, hy⟩ := bnd_some hy
 obtain ⟨_, e2, hy⟩ := bnd_some hy
 obtain ⟨h, hy⟩ := chk_some hy
 have h := of_decide_eq_true h
 have hy := Option.some.inj hy
 subst hy
 have e1 := alt2_some e1
 have e2 := alt2_some e2
 obtain ⟨e1, q1⟩ := e1
 obtain ⟨e2, q2⟩ := e2
 have q1 := Option.some.inj q1
 have q2 := Option.some.inj q2
 subst q1 q2
 exact runs40 x.1.1 x.1.2.1 x.1.2.2.1 x.1.2.2.2 x.2 h.1 h.2.1 h.2.2.1 h.2.2.2 (e_s_DevOk.ok _ _ e2) (e_s_l10Copy.ok _ _ e1)⟩
noncomputable def a_i_DevNew : An := .d
theorem h_i_DevNew (x : Int) : fnX (P := Try.prog) [.see e_i_within] [(8, .el (.L .Y))] (sOf Try.prog Try.f41) a_i_DevNew (iOf Try.prog Try.f41) [(false, .I .i64)] [(true, .P (.L
 (.L .Y)) (.P (.L (.P (.I .i64) (.L .Y))) (.P (.I .i64) .B)))] x = F_i_DevNew x := by kernel_rfl
noncomputable def e_i_DevNew : SEnt Try.prog := ⟨41, [(false, .I .i64)], [(true, .P (.L (.L .Y)) (.P (.L (.P (.I .i64) (.L .Y))) (.P (.I .i64) .B)))], F_i_DevNew, runs_see mixed_Pf
 Try.func41 (by kernel_rfl) h_i_DevNew⟩
noncomputable def a_l_FnDevsBent : An := .d
theorem h_l_FnDevsBent (x : List UInt8) : fnX (P := Try.prog) [.see e_l_big, .see e_s_DrawDevOk, .see e_s_DrawReadSec, .see e_s_DrawWriteSec, .see e_s_DrawFlushDev, .see
 e_s_DrawFallDev, .see e_s_DrawDevNew, .see e_i_DevOk, .see e_s_DevOk, .see e_i_ReadSec, .see e_s_ReadSec, .see e_i_WriteSec, .see e_s_WriteSec, .see e_l_sameDev, .see
 e_i_FlushDev, .see e_s_FlushDev, .see e_i_FallDev, .see e_s_FallDev, .see e_i_DevNew, .see e_s_DevNew] [] (sOf Try.prog Try.f7) a_l_FnDevsBent (iOf Try.prog Try.f7) [(false, .L
 .Y)] [(false, .B)] x = F_l_FnDevsBent x := by kernel_rfl
noncomputable def e_l_FnDevsBent : SEnt Try.prog := ⟨7, [(false, .L .Y)], [(false, .B)], F_l_FnDevsBent, runs_see mixed_Pf Try.func7 (by kernel_rfl) h_l_FnDevsBent⟩
end Go.Vs
